/- Written by a program of this session: for Go functions that a statement reaches, Lean functions with the same answers and the proofs that the calls come to them; conditions: none but the arguments' kinds. -/
import Derived.Test.YtkllcinoodfffaaP0
import Derived.Test.YtkllcinoodfffaaP1
import Derived.Test.YtkllcinoodfffaaP2
import Derived.Test.YtkllcinoodfffaaP5
import Derived.Test.YtkllcinoodfffaaP6
import Derived.Test.YtkllcinoodfffaaP7
namespace Go.Proofs.Ytkllcinoodfffaa.P
open Go.RowKit Go.Proofs.YtkllcinoodfffaaW.PrintWords Go.Proofs.YtkllcinoodfffaaW.PrintLast Go.Proofs.YtkllcinoodfffaaW.PrintMore
attribute [local go_sem] max2_int min2_int max_two min_two max_three min_three max_four min_four   -- for this text's walks alone
set_option linter.unusedVariables false
set_option linter.unusedSimpArgs false

/-! ### impl_DoTouch: function 8 -/
def impl_DoTouch.f (a0_0 : Int) (a0_1 : Int) (a0_2 : Int) (a0_3 : Int) (a1_0 : Int) (a1_1 : Int) (a1_2 : Int) (a1_3 : Int) : Option (Bool × Bool) := (impl_areCircles.f (([(⟨a0_0, a0_1, a0_2, a0_3⟩ : S25), (⟨a1_0, a1_1, a1_2, a1_3⟩ : S25)] : List (S25)))).bind fun t294 => (if t294 = true then ((impl_twice.f a0_0 a0_1 a0_2 a0_3 a1_0 a1_1 a1_2 a1_3).bind fun t295 => (some ((t295 == (-2)), true))) else (some (false, false)))
set_option maxHeartbeats 8000000 in
set_option maxRecDepth 100000 in
theorem impl_DoTouch.calls (a0_0 : Int) (a0_1 : Int) (a0_2 : Int) (a0_3 : Int) (a1_0 : Int) (a1_1 : Int) (a1_2 : Int) (a1_3 : Int) (r1 : Bool) (r2 : Bool) (w : World) (h : impl_DoTouch.f a0_0 a0_1 a0_2 a0_3 a1_0 a1_1 a1_2 a1_3 = some (r1, r2)) :
  Calls Try.prog 8 #[.agg #[.int .i64 a0_0, .int .i64 a0_1, .int .i64 a0_2, .int .i64 a0_3], .agg #[.int .i64 a1_0, .int .i64 a1_1, .int .i64 a1_2, .int .i64 a1_3]] w fun e w' => e = .returned (.tuple #[.bool r1, .bool r2]) ∧ Below w.heap.size w w' := by
 have hu25 := Try.underlying25
 have HB := Aside0.mk (Below.refl w.heap.size w)
 have H : ((impl_areCircles.f (([(⟨a0_0, a0_1, a0_2, a0_3⟩ : S25), (⟨a1_0, a1_1, a1_2, a1_3⟩ : S25)] : List (S25)))).bind fun t294 => (if t294 = true then ((impl_twice.f a0_0 a0_1 a0_2 a0_3 a1_0 a1_1 a1_2 a1_3).bind fun t295 => (some ((t295 == (-2)), true))) else (some (false, false)))) = some (r1, r2) := h
 clear h
 obtain ⟨y291, hy291⟩ : ∃ y_ : List (S25), y_ = (([(⟨a0_0, a0_1, a0_2, a0_3⟩ : S25), (⟨a1_0, a1_1, a1_2, a1_3⟩ : S25)] : List (S25))) := ⟨_, rfl⟩
 replace H : ((impl_areCircles.f y291).bind fun t294 => (if t294 = true then ((impl_twice.f a0_0 a0_1 a0_2 a0_3 a1_0 a1_1 a1_2 a1_3).bind fun t295 => (some ((t295 == (-2)), true))) else (some (false, false)))) = some (r1, r2) := by first | (rw [hy291]; with_reducible exact H) | (have H2_ := (Option.bind_some _ _).symm.trans H; rw [hy291]; with_reducible exact H2_) | (have H2_ := (Option.bind_some _ _).symm.trans H; with_reducible exact H2_) | with_reducible exact H | (rw [hy291]; exact H) | exact H
 have Ny291 := Aside0.mk hy291
 clear hy291
 replace H := Option.bind_eq_some_iff.mp H
 obtain ⟨t294, A30, H⟩ := H
 replace H : (if t294 = true then ((impl_twice.f a0_0 a0_1 a0_2 a0_3 a1_0 a1_1 a1_2 a1_3).bind fun t295 => (some ((t295 == (-2)), true))) else (some (false, false))) = some (r1, r2) := H
 have A3 := Aside0.mk A30
 clear A30
 by_cases c4 : t294 = true
 ·
  subst c4
  have H1 : ((impl_twice.f a0_0 a0_1 a0_2 a0_3 a1_0 a1_1 a1_2 a1_3).bind fun t295 => (some ((t295 == (-2)), true))) = some (r1, r2) := by rw [if_pos rfl] at H; exact H
  clear H
  have H := H1
  clear H1
  replace H := Option.bind_eq_some_iff.mp H
  obtain ⟨t295, A50, H⟩ := H
  replace H : (some ((t295 == (-2)), true)) = some (r1, r2) := H
  have A5 := Aside0.mk A50
  clear A50
  simp only [Option.some.injEq, Prod.mk.injEq] at H
  obtain ⟨rfl, rfl⟩ := H
  go_enter Try.func8, Try.ntmps8
  go_wp2_with (first | ((with_reducible refine gate_dst (N := 2) rfl ?_); refine boxN_ 2 #[.int .i64 a0_0, .int .i64 a0_1, .int .i64 a0_2, .int .i64 a0_3] 25 ?_; intro gb289 hg w6 hbox hb; have BK289 := Aside0.mk hbox; have GW289 := gw_ (w := w) Z111 hg; have GE289 := gw_ (w := w) Z111 hg; replace HB := Aside0.mk (below_step Z111 hb); clear hb hbox hg) | ((with_reducible refine gate_dst (N := 3) rfl ?_); refine boxN_ 3 #[.int .i64 a1_0, .int .i64 a1_1, .int .i64 a1_2, .int .i64 a1_3] 25 ?_; intro gb290 hg w7 hbox hb; have BK290 := Aside0.mk hbox; have GW290 := gw_ (w := w) Z42 hg; have GE290 := gw_ (w := w) Z42 hg; replace HB := Aside0.mk (below_step Z42 hb); have NB289_290 := nl_ BK289 hg; have NB290_289 := ng_ BK289 hg; replace BK289 := bk_ BK289 hb; clear hb hbox hg; have hnb8 := NB289_290.out; have hnc8 := NB290_289.out; obtain ⟨_, _, _, _, _, _, _, _⟩ := cz4_ BK289; obtain ⟨_, _, _, _, _, _, _, _⟩ := cz4_ BK290) | ((with_reducible refine gate_dst (N := 8) rfl ?_); refine Kd.R_lit k25 _ 25 ?hg (N := 8) ?hd (xs := ([(⟨a0_0, a0_1, a0_2, a0_3⟩ : S25), (⟨a1_0, a1_1, a1_2, a1_3⟩ : S25)] : List (S25))) (inner := [.int .i64 a0_0, .int .i64 a0_1, .int .i64 a0_2, .int .i64 a0_3, .int .i64 a1_0, .int .i64 a1_1, .int .i64 a1_2, .int .i64 a1_3]) (ok := fun _ => True) (okp := fun _ => True) ?hr ?hp (fun _ hk => hk) trivial (Below.refl _ _) (Nat.le_refl _) (by simp) ?_; (case hd => rfl); (case hg => rfl); (case hr => first | (go_simp; done) | (go_simp; rfl)); (case hp => exact (Reps.c4 (show Kd.M k25 _ _ _ (⟨a0_0, a0_1, a0_2, a0_3⟩ : S25) [.int .i64 a0_0, .int .i64 a0_1, .int .i64 a0_2, .int .i64 a0_3] from (k25_mkM _ _ _ (⟨a0_0, a0_1, a0_2, a0_3⟩ : S25) )) (Reps.c4 (show Kd.M k25 _ _ _ (⟨a1_0, a1_1, a1_2, a1_3⟩ : S25) [.int .i64 a1_0, .int .i64 a1_1, .int .i64 a1_2, .int .i64 a1_3] from (k25_mkM _ _ _ (⟨a1_0, a1_1, a1_2, a1_3⟩ : S25) )) (Reps.none _ _)))); intro v292 w11 ho12 hb hg_ hnew_; clear hg_ hnew_; (first | rw [← Ny291.out] at ho12 | (simp only [Int.reduceToNat] at ho12; rw [← Ny291.out] at ho12)); have HO293 := Aside0.mk (Kd.R_lower (Kd.R_newB (Kd.R_newB ho12 (g := gb289) (o := .cells #[.int .i64 a0_0, .int .i64 a0_1, .int .i64 a0_2, .int .i64 a0_3] 25 (0, 0)) (by (with_reducible repeat (first | refine blk_drewN ?_ _ | refine blk_drew ?_ | refine blk_alloc ?_ _)); exact BK289.out)) (g := gb290) (o := .cells #[.int .i64 a1_0, .int .i64 a1_1, .int .i64 a1_2, .int .i64 a1_3] 25 (0, 0)) (by (with_reducible repeat (first | refine blk_drewN ?_ _ | refine blk_drew ?_ | refine blk_alloc ?_ _)); exact BK290.out)) (below_size Z82)); replace BK289 := bk_ BK289 hb; replace BK290 := bk_ BK290 hb; replace HB := Aside0.mk (below_step Z82 hb); clear hb ho12; obtain ⟨Ao13, co13, eo13⟩ := Kd.R_slice HO293.out; subst eo13) | ((with_reducible refine gate_callee (f := 23) rfl ?_); refine goesN_ 23 (some 9) Try.func23 #[.slice Ao13 y291.length co13] ?_; (with_reducible refine (impl_areCircles.calls _ _ y291 true _ ?side1 ?side2 A3.out).mono ?_); (case side1 => repeat (first | exact (Kd.R_reads' HO293.out).2.2 | (with_reducible refine Kd.C_alloc ?_ _) | (with_reducible refine Kd.C_drewN ?_ _) | (with_reducible refine Kd.C_drew ?_))); (case side2 => exact (Kd.R_reads' HO293.out).2.1); rintro e w14 ⟨rfl, hb⟩; refine ⟨_, rfl, ?_⟩; replace HO293 := Aside0.mk (Kd.R_below Z3 hb); replace BK289 := bk_ BK289 hb; replace BK290 := bk_ BK290 hb; replace HB := Aside0.mk (below_step Z82 hb); clear hb; obtain ⟨_, _, _, _, _, _, _, _⟩ := cz4_ BK289; obtain ⟨_, _, _, _, _, _, _, _⟩ := cz4_ BK290) | ((with_reducible refine gate_callee (f := 24) rfl ?_); refine goesN_ 24 (some 13) Try.func24 #[.agg #[.int .i64 a0_0, .int .i64 a0_1, .int .i64 a0_2, .int .i64 a0_3], .agg #[.int .i64 a1_0, .int .i64 a1_1, .int .i64 a1_2, .int .i64 a1_3]] ?_; (with_reducible refine (impl_twice.calls a0_0 a0_1 a0_2 a0_3 a1_0 a1_1 a1_2 a1_3 t295 _ A5.out).mono ?_); rintro e w17 ⟨rfl, hb⟩; refine ⟨_, rfl, ?_⟩; replace HO293 := Aside0.mk (Kd.R_below Z3 hb); replace BK289 := bk_ BK289 hb; replace BK290 := bk_ BK290 hb; replace HB := Aside0.mk (below_step Z82 hb); clear hb))
  go_ret2
  exact ⟨Z106, Z82⟩
 ·
  replace c4 := Bool.eq_false_iff.mpr c4
  subst c4
  have H1 : (some (false, false)) = some (r1, r2) := by rw [if_neg (show ¬ (false = true) by decide)] at H; exact H
  clear H
  have H := H1
  clear H1
  simp only [Option.some.injEq, Prod.mk.injEq] at H
  obtain ⟨rfl, rfl⟩ := H
  go_enter Try.func8, Try.ntmps8
  go_wp2_with (first | ((with_reducible refine gate_dst (N := 2) rfl ?_); refine boxN_ 2 #[.int .i64 a0_0, .int .i64 a0_1, .int .i64 a0_2, .int .i64 a0_3] 25 ?_; intro gb289 hg w18 hbox hb; have BK289 := Aside0.mk hbox; have GW289 := gw_ (w := w) Z111 hg; have GE289 := gw_ (w := w) Z111 hg; replace HB := Aside0.mk (below_step Z111 hb); clear hb hbox hg) | ((with_reducible refine gate_dst (N := 3) rfl ?_); refine boxN_ 3 #[.int .i64 a1_0, .int .i64 a1_1, .int .i64 a1_2, .int .i64 a1_3] 25 ?_; intro gb290 hg w19 hbox hb; have BK290 := Aside0.mk hbox; have GW290 := gw_ (w := w) Z42 hg; have GE290 := gw_ (w := w) Z42 hg; replace HB := Aside0.mk (below_step Z42 hb); have NB289_290 := nl_ BK289 hg; have NB290_289 := ng_ BK289 hg; replace BK289 := bk_ BK289 hb; clear hb hbox hg; have hnb20 := NB289_290.out; have hnc20 := NB290_289.out; obtain ⟨_, _, _, _, _, _, _, _⟩ := cz4_ BK289; obtain ⟨_, _, _, _, _, _, _, _⟩ := cz4_ BK290) | ((with_reducible refine gate_dst (N := 8) rfl ?_); refine Kd.R_lit k25 _ 25 ?hg (N := 8) ?hd (xs := ([(⟨a0_0, a0_1, a0_2, a0_3⟩ : S25), (⟨a1_0, a1_1, a1_2, a1_3⟩ : S25)] : List (S25))) (inner := [.int .i64 a0_0, .int .i64 a0_1, .int .i64 a0_2, .int .i64 a0_3, .int .i64 a1_0, .int .i64 a1_1, .int .i64 a1_2, .int .i64 a1_3]) (ok := fun _ => True) (okp := fun _ => True) ?hr ?hp (fun _ hk => hk) trivial (Below.refl _ _) (Nat.le_refl _) (by simp) ?_; (case hd => rfl); (case hg => rfl); (case hr => first | (go_simp; done) | (go_simp; rfl)); (case hp => exact (Reps.c4 (show Kd.M k25 _ _ _ (⟨a0_0, a0_1, a0_2, a0_3⟩ : S25) [.int .i64 a0_0, .int .i64 a0_1, .int .i64 a0_2, .int .i64 a0_3] from (k25_mkM _ _ _ (⟨a0_0, a0_1, a0_2, a0_3⟩ : S25) )) (Reps.c4 (show Kd.M k25 _ _ _ (⟨a1_0, a1_1, a1_2, a1_3⟩ : S25) [.int .i64 a1_0, .int .i64 a1_1, .int .i64 a1_2, .int .i64 a1_3] from (k25_mkM _ _ _ (⟨a1_0, a1_1, a1_2, a1_3⟩ : S25) )) (Reps.none _ _)))); intro v292 w23 ho24 hb hg_ hnew_; clear hg_ hnew_; (first | rw [← Ny291.out] at ho24 | (simp only [Int.reduceToNat] at ho24; rw [← Ny291.out] at ho24)); have HO293 := Aside0.mk (Kd.R_lower (Kd.R_newB (Kd.R_newB ho24 (g := gb289) (o := .cells #[.int .i64 a0_0, .int .i64 a0_1, .int .i64 a0_2, .int .i64 a0_3] 25 (0, 0)) (by (with_reducible repeat (first | refine blk_drewN ?_ _ | refine blk_drew ?_ | refine blk_alloc ?_ _)); exact BK289.out)) (g := gb290) (o := .cells #[.int .i64 a1_0, .int .i64 a1_1, .int .i64 a1_2, .int .i64 a1_3] 25 (0, 0)) (by (with_reducible repeat (first | refine blk_drewN ?_ _ | refine blk_drew ?_ | refine blk_alloc ?_ _)); exact BK290.out)) (below_size Z82)); replace BK289 := bk_ BK289 hb; replace BK290 := bk_ BK290 hb; replace HB := Aside0.mk (below_step Z82 hb); clear hb ho24; obtain ⟨Ao25, co25, eo25⟩ := Kd.R_slice HO293.out; subst eo25) | ((with_reducible refine gate_callee (f := 23) rfl ?_); refine goesN_ 23 (some 9) Try.func23 #[.slice Ao25 y291.length co25] ?_; (with_reducible refine (impl_areCircles.calls _ _ y291 false _ ?side1 ?side2 A3.out).mono ?_); (case side1 => repeat (first | exact (Kd.R_reads' HO293.out).2.2 | (with_reducible refine Kd.C_alloc ?_ _) | (with_reducible refine Kd.C_drewN ?_ _) | (with_reducible refine Kd.C_drew ?_))); (case side2 => exact (Kd.R_reads' HO293.out).2.1); rintro e w26 ⟨rfl, hb⟩; refine ⟨_, rfl, ?_⟩; replace HO293 := Aside0.mk (Kd.R_below Z3 hb); replace BK289 := bk_ BK289 hb; replace BK290 := bk_ BK290 hb; replace HB := Aside0.mk (below_step Z82 hb); clear hb))
  go_ret2
  exact ⟨Z106, Z82⟩

/-! ### spec_DoTouch: function 9 -/
def spec_DoTouch.f (k : Nat) (a0_0 : Int) (a0_1 : Int) (a0_2 : Int) (a0_3 : Int) (a1_0 : Int) (a1_1 : Int) (a1_2 : Int) (a1_3 : Int) : Option (Bool × Bool) := (spec_ciGood.f k a0_0 a0_1 a0_2 a0_3).bind fun t298 => (if t298 = true then ((spec_ciGood.f k a1_0 a1_1 a1_2 a1_3).bind fun t299 => (if t299 = true then ((spec_ciTwice.f a0_0 a0_1 a0_2 a0_3 a1_0 a1_1 a1_2 a1_3).bind fun t300 => (some ((t300 == (-2)), true))) else (some (false, false)))) else (some (false, false)))
theorem spec_DoTouch.mono : ∀ a0 a1 a2 a3 a4 a5 a6 a7 k, LeO (spec_DoTouch.f k a0 a1 a2 a3 a4 a5 a6 a7) (spec_DoTouch.f (k + 1) a0 a1 a2 a3 a4 a5 a6 a7) := by
  intro a0 a1 a2 a3 a4 a5 a6 a7 k
  unfold spec_DoTouch.f
  repeat' first
      | (with_reducible exact spec_ciGood.mono _ _ _ _ _)
      | (with_reducible exact LeO.refl _)
      | (with_reducible exact LeO.none _)
      | (with_reducible refine LeO.ite ?_ ?_)
      | (with_reducible refine LeO.bind ?_ (fun _ => ?_))
      | exact spec_ciGood.mono _ _ _ _ _
      | exact LeO.none _
      | refine LeO.ite ?_ ?_
      | refine LeO.bind ?_ (fun _ => ?_)
set_option maxHeartbeats 8000000 in
set_option maxRecDepth 100000 in
theorem spec_DoTouch.calls (k : Nat) (a0_0 : Int) (a0_1 : Int) (a0_2 : Int) (a0_3 : Int) (a1_0 : Int) (a1_1 : Int) (a1_2 : Int) (a1_3 : Int) (r1 : Bool) (r2 : Bool) (w : World) (h : spec_DoTouch.f k a0_0 a0_1 a0_2 a0_3 a1_0 a1_1 a1_2 a1_3 = some (r1, r2)) :
  Calls Try.prog 9 #[.agg #[.int .i64 a0_0, .int .i64 a0_1, .int .i64 a0_2, .int .i64 a0_3], .agg #[.int .i64 a1_0, .int .i64 a1_1, .int .i64 a1_2, .int .i64 a1_3]] w fun e w' => e = .returned (.tuple #[.bool r1, .bool r2]) ∧ Below w.heap.size w w' := by
 have hu25 := Try.underlying25
 have HB := Aside0.mk (Below.refl w.heap.size w)
 have H : ((spec_ciGood.f k a0_0 a0_1 a0_2 a0_3).bind fun t298 => (if t298 = true then ((spec_ciGood.f k a1_0 a1_1 a1_2 a1_3).bind fun t299 => (if t299 = true then ((spec_ciTwice.f a0_0 a0_1 a0_2 a0_3 a1_0 a1_1 a1_2 a1_3).bind fun t300 => (some ((t300 == (-2)), true))) else (some (false, false)))) else (some (false, false)))) = some (r1, r2) := h
 clear h
 replace H := Option.bind_eq_some_iff.mp H
 obtain ⟨t298, A30, H⟩ := H
 replace H : (if t298 = true then ((spec_ciGood.f k a1_0 a1_1 a1_2 a1_3).bind fun t299 => (if t299 = true then ((spec_ciTwice.f a0_0 a0_1 a0_2 a0_3 a1_0 a1_1 a1_2 a1_3).bind fun t300 => (some ((t300 == (-2)), true))) else (some (false, false)))) else (some (false, false))) = some (r1, r2) := H
 have A3 := Aside0.mk A30
 clear A30
 by_cases c4 : t298 = true
 ·
  subst c4
  have H1 : ((spec_ciGood.f k a1_0 a1_1 a1_2 a1_3).bind fun t299 => (if t299 = true then ((spec_ciTwice.f a0_0 a0_1 a0_2 a0_3 a1_0 a1_1 a1_2 a1_3).bind fun t300 => (some ((t300 == (-2)), true))) else (some (false, false)))) = some (r1, r2) := by rw [if_pos rfl] at H; exact H
  clear H
  have H := H1
  clear H1
  replace H := Option.bind_eq_some_iff.mp H
  obtain ⟨t299, A50, H⟩ := H
  replace H : (if t299 = true then ((spec_ciTwice.f a0_0 a0_1 a0_2 a0_3 a1_0 a1_1 a1_2 a1_3).bind fun t300 => (some ((t300 == (-2)), true))) else (some (false, false))) = some (r1, r2) := H
  have A5 := Aside0.mk A50
  clear A50
  by_cases c6 : t299 = true
  ·
   subst c6
   have H1 : ((spec_ciTwice.f a0_0 a0_1 a0_2 a0_3 a1_0 a1_1 a1_2 a1_3).bind fun t300 => (some ((t300 == (-2)), true))) = some (r1, r2) := by rw [if_pos rfl] at H; exact H
   clear H
   have H := H1
   clear H1
   replace H := Option.bind_eq_some_iff.mp H
   obtain ⟨t300, A70, H⟩ := H
   replace H : (some ((t300 == (-2)), true)) = some (r1, r2) := H
   have A7 := Aside0.mk A70
   clear A70
   simp only [Option.some.injEq, Prod.mk.injEq] at H
   obtain ⟨rfl, rfl⟩ := H
   go_enter Try.func9, Try.ntmps9
   go_wp2_with (first | ((with_reducible refine gate_dst (N := 2) rfl ?_); refine boxN_ 2 #[.int .i64 a0_0, .int .i64 a0_1, .int .i64 a0_2, .int .i64 a0_3] 25 ?_; intro gb296 hg w8 hbox hb; have BK296 := Aside0.mk hbox; have GW296 := gw_ (w := w) Z111 hg; have GE296 := gw_ (w := w) Z111 hg; replace HB := Aside0.mk (below_step Z111 hb); clear hb hbox hg) | ((with_reducible refine gate_dst (N := 3) rfl ?_); refine boxN_ 3 #[.int .i64 a1_0, .int .i64 a1_1, .int .i64 a1_2, .int .i64 a1_3] 25 ?_; intro gb297 hg w9 hbox hb; have BK297 := Aside0.mk hbox; have GW297 := gw_ (w := w) Z77 hg; have GE297 := gw_ (w := w) Z77 hg; replace HB := Aside0.mk (below_step Z77 hb); have NB296_297 := nl_ BK296 hg; have NB297_296 := ng_ BK296 hg; replace BK296 := bk_ BK296 hb; clear hb hbox hg; have hnb10 := NB296_297.out; have hnc10 := NB297_296.out; obtain ⟨_, _, _, _, _, _, _, _⟩ := cz4_ BK296) | ((with_reducible refine gate_callee (f := 25) rfl ?_); refine goesN_ 25 (some 7) Try.func25 #[.agg #[.int .i64 a0_0, .int .i64 a0_1, .int .i64 a0_2, .int .i64 a0_3]] ?_; (with_reducible refine (spec_ciGood.calls k a0_0 a0_1 a0_2 a0_3 true _ A3.out).mono ?_); rintro e w12 ⟨rfl, hb⟩; refine ⟨_, rfl, ?_⟩; replace BK296 := bk_ BK296 hb; replace BK297 := bk_ BK297 hb; replace HB := Aside0.mk (below_step Z83 hb); clear hb; obtain ⟨_, _, _, _, _, _, _, _⟩ := cz4_ BK297) | (go_at_call 25; (with_reducible refine (spec_ciGood.calls k a1_0 a1_1 a1_2 a1_3 true _ A5.out).mono ?_); rintro e w14 ⟨rfl, hb⟩; replace BK296 := bk_ BK296 hb; replace BK297 := bk_ BK297 hb; replace HB := Aside0.mk (below_step Z83 hb); clear hb; obtain ⟨_, _, _, _, _, _, _, _⟩ := cz4_ BK296; obtain ⟨_, _, _, _, _, _, _, _⟩ := cz4_ BK297) | ((with_reducible refine gate_callee (f := 26) rfl ?_); refine goesN_ 26 (some 16) Try.func26 #[.agg #[.int .i64 a0_0, .int .i64 a0_1, .int .i64 a0_2, .int .i64 a0_3], .agg #[.int .i64 a1_0, .int .i64 a1_1, .int .i64 a1_2, .int .i64 a1_3]] ?_; (with_reducible refine (spec_ciTwice.calls a0_0 a0_1 a0_2 a0_3 a1_0 a1_1 a1_2 a1_3 t300 _ A7.out).mono ?_); rintro e w17 ⟨rfl, hb⟩; refine ⟨_, rfl, ?_⟩; replace BK296 := bk_ BK296 hb; replace BK297 := bk_ BK297 hb; replace HB := Aside0.mk (below_step Z83 hb); clear hb))
   go_ret2
   exact ⟨Z106, Z83⟩
  ·
   replace c6 := Bool.eq_false_iff.mpr c6
   subst c6
   have H1 : (some (false, false)) = some (r1, r2) := by rw [if_neg (show ¬ (false = true) by decide)] at H; exact H
   clear H
   have H := H1
   clear H1
   simp only [Option.some.injEq, Prod.mk.injEq] at H
   obtain ⟨rfl, rfl⟩ := H
   go_enter Try.func9, Try.ntmps9
   go_wp2_with (first | ((with_reducible refine gate_dst (N := 2) rfl ?_); refine boxN_ 2 #[.int .i64 a0_0, .int .i64 a0_1, .int .i64 a0_2, .int .i64 a0_3] 25 ?_; intro gb296 hg w18 hbox hb; have BK296 := Aside0.mk hbox; have GW296 := gw_ (w := w) Z111 hg; have GE296 := gw_ (w := w) Z111 hg; replace HB := Aside0.mk (below_step Z111 hb); clear hb hbox hg) | ((with_reducible refine gate_dst (N := 3) rfl ?_); refine boxN_ 3 #[.int .i64 a1_0, .int .i64 a1_1, .int .i64 a1_2, .int .i64 a1_3] 25 ?_; intro gb297 hg w19 hbox hb; have BK297 := Aside0.mk hbox; have GW297 := gw_ (w := w) Z77 hg; have GE297 := gw_ (w := w) Z77 hg; replace HB := Aside0.mk (below_step Z77 hb); have NB296_297 := nl_ BK296 hg; have NB297_296 := ng_ BK296 hg; replace BK296 := bk_ BK296 hb; clear hb hbox hg; have hnb20 := NB296_297.out; have hnc20 := NB297_296.out; obtain ⟨_, _, _, _, _, _, _, _⟩ := cz4_ BK296) | ((with_reducible refine gate_callee (f := 25) rfl ?_); refine goesN_ 25 (some 7) Try.func25 #[.agg #[.int .i64 a0_0, .int .i64 a0_1, .int .i64 a0_2, .int .i64 a0_3]] ?_; (with_reducible refine (spec_ciGood.calls k a0_0 a0_1 a0_2 a0_3 true _ A3.out).mono ?_); rintro e w22 ⟨rfl, hb⟩; refine ⟨_, rfl, ?_⟩; replace BK296 := bk_ BK296 hb; replace BK297 := bk_ BK297 hb; replace HB := Aside0.mk (below_step Z83 hb); clear hb; obtain ⟨_, _, _, _, _, _, _, _⟩ := cz4_ BK297) | (go_at_call 25; (with_reducible refine (spec_ciGood.calls k a1_0 a1_1 a1_2 a1_3 false _ A5.out).mono ?_); rintro e w24 ⟨rfl, hb⟩; replace BK296 := bk_ BK296 hb; replace BK297 := bk_ BK297 hb; replace HB := Aside0.mk (below_step Z83 hb); clear hb))
   go_ret2
   exact ⟨Z106, Z83⟩
 ·
  replace c4 := Bool.eq_false_iff.mpr c4
  subst c4
  have H1 : (some (false, false)) = some (r1, r2) := by rw [if_neg (show ¬ (false = true) by decide)] at H; exact H
  clear H
  have H := H1
  clear H1
  simp only [Option.some.injEq, Prod.mk.injEq] at H
  obtain ⟨rfl, rfl⟩ := H
  go_enter Try.func9, Try.ntmps9
  go_wp2_with (first | ((with_reducible refine gate_dst (N := 2) rfl ?_); refine boxN_ 2 #[.int .i64 a0_0, .int .i64 a0_1, .int .i64 a0_2, .int .i64 a0_3] 25 ?_; intro gb296 hg w25 hbox hb; have BK296 := Aside0.mk hbox; have GW296 := gw_ (w := w) Z111 hg; have GE296 := gw_ (w := w) Z111 hg; replace HB := Aside0.mk (below_step Z111 hb); clear hb hbox hg) | ((with_reducible refine gate_dst (N := 3) rfl ?_); refine boxN_ 3 #[.int .i64 a1_0, .int .i64 a1_1, .int .i64 a1_2, .int .i64 a1_3] 25 ?_; intro gb297 hg w26 hbox hb; have BK297 := Aside0.mk hbox; have GW297 := gw_ (w := w) Z77 hg; have GE297 := gw_ (w := w) Z77 hg; replace HB := Aside0.mk (below_step Z77 hb); have NB296_297 := nl_ BK296 hg; have NB297_296 := ng_ BK296 hg; replace BK296 := bk_ BK296 hb; clear hb hbox hg; have hnb27 := NB296_297.out; have hnc27 := NB297_296.out; obtain ⟨_, _, _, _, _, _, _, _⟩ := cz4_ BK296) | ((with_reducible refine gate_callee (f := 25) rfl ?_); refine goesN_ 25 (some 7) Try.func25 #[.agg #[.int .i64 a0_0, .int .i64 a0_1, .int .i64 a0_2, .int .i64 a0_3]] ?_; (with_reducible refine (spec_ciGood.calls k a0_0 a0_1 a0_2 a0_3 false _ A3.out).mono ?_); rintro e w29 ⟨rfl, hb⟩; refine ⟨_, rfl, ?_⟩; replace BK296 := bk_ BK296 hb; replace BK297 := bk_ BK297 hb; replace HB := Aside0.mk (below_step Z83 hb); clear hb))
  go_ret2
  exact ⟨Z106, Z83⟩

/-! ### impl_TurnCircle: function 10 -/
def impl_TurnCircle.f (a0_0 : Int) (a0_1 : Int) (a0_2 : Int) (a0_3 : Int) : Option (Int × Int × Int × Int × Bool) := (impl_IsCircle.f a0_0 a0_1 a0_2 a0_3).bind fun t303 => (if t303 = true then (some (a0_0, a0_1, wrap64 (-a0_3), a0_2, true)) else (some (0, 0, 0, 0, false)))
set_option maxHeartbeats 8000000 in
set_option maxRecDepth 100000 in
theorem impl_TurnCircle.calls (a0_0 : Int) (a0_1 : Int) (a0_2 : Int) (a0_3 : Int) (r1 : Int) (r2 : Int) (r3 : Int) (r4 : Int) (r5 : Bool) (w : World) (h : impl_TurnCircle.f a0_0 a0_1 a0_2 a0_3 = some (r1, r2, r3, r4, r5)) :
  Calls Try.prog 10 #[.agg #[.int .i64 a0_0, .int .i64 a0_1, .int .i64 a0_2, .int .i64 a0_3]] w fun e w' => e = .returned (.tuple #[.agg #[.int .i64 r1, .int .i64 r2, .int .i64 r3, .int .i64 r4], .bool r5]) ∧ Below w.heap.size w w' := by
 have hu25 := Try.underlying25
 have HB := Aside0.mk (Below.refl w.heap.size w)
 have H : ((impl_IsCircle.f a0_0 a0_1 a0_2 a0_3).bind fun t303 => (if t303 = true then (some (a0_0, a0_1, wrap64 (-a0_3), a0_2, true)) else (some (0, 0, 0, 0, false)))) = some (r1, r2, r3, r4, r5) := h
 clear h
 replace H := Option.bind_eq_some_iff.mp H
 obtain ⟨t303, A20, H⟩ := H
 replace H : (if t303 = true then (some (a0_0, a0_1, wrap64 (-a0_3), a0_2, true)) else (some (0, 0, 0, 0, false))) = some (r1, r2, r3, r4, r5) := H
 have A2 := Aside0.mk A20
 clear A20
 by_cases c3 : t303 = true
 ·
  subst c3
  have H1 : (some (a0_0, a0_1, wrap64 (-a0_3), a0_2, true)) = some (r1, r2, r3, r4, r5) := by rw [if_pos rfl] at H; exact H
  clear H
  have H := H1
  clear H1
  simp only [Option.some.injEq, Prod.mk.injEq] at H
  obtain ⟨rfl, rfl, rfl, rfl, rfl⟩ := H
  go_enter Try.func10, Try.ntmps10
  go_wp2_with (first | ((with_reducible refine gate_dst (N := 1) rfl ?_); refine boxN_ 1 #[.int .i64 a0_0, .int .i64 a0_1, .int .i64 a0_2, .int .i64 a0_3] 25 ?_; intro gb301 hg w4 hbox hb; have BK301 := Aside0.mk hbox; have GW301 := gw_ (w := w) Z111 hg; have GE301 := gw_ (w := w) Z111 hg; replace HB := Aside0.mk (below_step Z111 hb); clear hb hbox hg) | ((with_reducible refine gate_dst (N := 2) rfl ?_); refine boxN_ 2 #[.int .i64 0, .int .i64 0, .int .i64 0, .int .i64 0] 25 ?_; intro gb302 hg w5 hbox hb; have BK302 := Aside0.mk hbox; have GW302 := gw_ (w := w) Z43 hg; have GE302 := gw_ (w := w) Z43 hg; replace HB := Aside0.mk (below_step Z43 hb); have NB301_302 := nl_ BK301 hg; have NB302_301 := ng_ BK301 hg; replace BK301 := bk_ BK301 hb; clear hb hbox hg; have hnb6 := NB301_302.out; have hnc6 := NB302_301.out; obtain ⟨_, _, _, _, _, _, _, _⟩ := cz4_ BK301) | ((with_reducible refine gate_callee (f := 15) rfl ?_); refine goesN_ 15 (some 5) Try.func15 #[.agg #[.int .i64 a0_0, .int .i64 a0_1, .int .i64 a0_2, .int .i64 a0_3]] ?_; (with_reducible refine (impl_IsCircle.calls a0_0 a0_1 a0_2 a0_3 true _ A2.out).mono ?_); rintro e w8 ⟨rfl, hb⟩; refine ⟨_, rfl, ?_⟩; replace BK301 := bk_ BK301 hb; replace BK302 := bk_ BK302 hb; replace HB := Aside0.mk (below_step Z25 hb); clear hb; obtain ⟨_, _, _, _, _, _, _, _⟩ := cz4_ BK301; obtain ⟨_, _, _, _, _, _, _, _⟩ := cz4_ BK302))
  refine bodyPost_ret (results_ct rfl _ _ gb302 25 #[.int .i64 a0_0, .int .i64 a0_1, .int .i64 (wrap64 (-a0_3)), .int .i64 a0_2] (0, 0) _ rfl (by (with_reducible repeat (first | refine blk_drewN ?_ _ | refine blk_drew ?_ | refine blk_alloc ?_ _)); refine blk_put (cs := #[.int .i64 a0_0, .int .i64 a0_1, .int .i64 (wrap64 (-a0_3)), .int .i64 0]) ?_ 3 _ rfl; (with_reducible repeat (first | refine blk_drewN ?_ _ | refine blk_drew ?_ | refine blk_alloc ?_ _)); refine blk_put (cs := #[.int .i64 a0_0, .int .i64 a0_1, .int .i64 0, .int .i64 0]) ?_ 2 _ rfl; (with_reducible repeat (first | refine blk_drewN ?_ _ | refine blk_drew ?_ | refine blk_alloc ?_ _)); refine blk_put (cs := #[.int .i64 a0_0, .int .i64 0, .int .i64 0, .int .i64 0]) ?_ 1 _ rfl; (with_reducible repeat (first | refine blk_drewN ?_ _ | refine blk_drew ?_ | refine blk_alloc ?_ _)); refine blk_put (cs := #[.int .i64 0, .int .i64 0, .int .i64 0, .int .i64 0]) ?_ 0 _ rfl; (with_reducible repeat (first | refine blk_drewN ?_ _ | refine blk_drew ?_ | refine blk_alloc ?_ _)); exact BK302.out) Try.underlying25 rfl Z59) rfl ?_
  exact ⟨Z106, Z25⟩
 ·
  replace c3 := Bool.eq_false_iff.mpr c3
  subst c3
  have H1 : (some (0, 0, 0, 0, false)) = some (r1, r2, r3, r4, r5) := by rw [if_neg (show ¬ (false = true) by decide)] at H; exact H
  clear H
  have H := H1
  clear H1
  simp only [Option.some.injEq, Prod.mk.injEq] at H
  obtain ⟨rfl, rfl, rfl, rfl, rfl⟩ := H
  go_enter Try.func10, Try.ntmps10
  go_wp2_with (first | ((with_reducible refine gate_dst (N := 1) rfl ?_); refine boxN_ 1 #[.int .i64 a0_0, .int .i64 a0_1, .int .i64 a0_2, .int .i64 a0_3] 25 ?_; intro gb301 hg w11 hbox hb; have BK301 := Aside0.mk hbox; have GW301 := gw_ (w := w) Z111 hg; have GE301 := gw_ (w := w) Z111 hg; replace HB := Aside0.mk (below_step Z111 hb); clear hb hbox hg) | ((with_reducible refine gate_dst (N := 2) rfl ?_); refine boxN_ 2 #[.int .i64 0, .int .i64 0, .int .i64 0, .int .i64 0] 25 ?_; intro gb302 hg w12 hbox hb; have BK302 := Aside0.mk hbox; have GW302 := gw_ (w := w) Z43 hg; have GE302 := gw_ (w := w) Z43 hg; replace HB := Aside0.mk (below_step Z43 hb); have NB301_302 := nl_ BK301 hg; have NB302_301 := ng_ BK301 hg; replace BK301 := bk_ BK301 hb; clear hb hbox hg; have hnb13 := NB301_302.out; have hnc13 := NB302_301.out; obtain ⟨_, _, _, _, _, _, _, _⟩ := cz4_ BK301) | ((with_reducible refine gate_callee (f := 15) rfl ?_); refine goesN_ 15 (some 5) Try.func15 #[.agg #[.int .i64 a0_0, .int .i64 a0_1, .int .i64 a0_2, .int .i64 a0_3]] ?_; (with_reducible refine (impl_IsCircle.calls a0_0 a0_1 a0_2 a0_3 false _ A2.out).mono ?_); rintro e w15 ⟨rfl, hb⟩; refine ⟨_, rfl, ?_⟩; replace BK301 := bk_ BK301 hb; replace BK302 := bk_ BK302 hb; replace HB := Aside0.mk (below_step Z25 hb); clear hb; obtain ⟨_, _, _, _, _, _, _, _⟩ := cz4_ BK302))
  refine bodyPost_ret (results_ct rfl _ _ gb302 25 #[.int .i64 0, .int .i64 0, .int .i64 0, .int .i64 0] (0, 0) _ rfl (by (with_reducible repeat (first | refine blk_drewN ?_ _ | refine blk_drew ?_ | refine blk_alloc ?_ _)); refine blk_put (cs := #[.int .i64 0, .int .i64 0, .int .i64 0, .int .i64 0]) ?_ 3 _ rfl; (with_reducible repeat (first | refine blk_drewN ?_ _ | refine blk_drew ?_ | refine blk_alloc ?_ _)); refine blk_put (cs := #[.int .i64 0, .int .i64 0, .int .i64 0, .int .i64 0]) ?_ 2 _ rfl; (with_reducible repeat (first | refine blk_drewN ?_ _ | refine blk_drew ?_ | refine blk_alloc ?_ _)); refine blk_put (cs := #[.int .i64 0, .int .i64 0, .int .i64 0, .int .i64 0]) ?_ 1 _ rfl; (with_reducible repeat (first | refine blk_drewN ?_ _ | refine blk_drew ?_ | refine blk_alloc ?_ _)); refine blk_put (cs := #[.int .i64 0, .int .i64 0, .int .i64 0, .int .i64 0]) ?_ 0 _ rfl; (with_reducible repeat (first | refine blk_drewN ?_ _ | refine blk_drew ?_ | refine blk_alloc ?_ _)); exact BK302.out) Try.underlying25 rfl Z59) rfl ?_
  exact ⟨Z106, Z25⟩

/-! ### impl_FlipCircle: function 11 -/
def impl_FlipCircle.f (a0_0 : Int) (a0_1 : Int) (a0_2 : Int) (a0_3 : Int) : Option (Int × Int × Int × Int × Bool) := (impl_IsCircle.f a0_0 a0_1 a0_2 a0_3).bind fun t306 => (if t306 = true then (some (a0_0, a0_1, wrap64 (-a0_2), a0_3, true)) else (some (0, 0, 0, 0, false)))
set_option maxHeartbeats 8000000 in
set_option maxRecDepth 100000 in
theorem impl_FlipCircle.calls (a0_0 : Int) (a0_1 : Int) (a0_2 : Int) (a0_3 : Int) (r1 : Int) (r2 : Int) (r3 : Int) (r4 : Int) (r5 : Bool) (w : World) (h : impl_FlipCircle.f a0_0 a0_1 a0_2 a0_3 = some (r1, r2, r3, r4, r5)) :
  Calls Try.prog 11 #[.agg #[.int .i64 a0_0, .int .i64 a0_1, .int .i64 a0_2, .int .i64 a0_3]] w fun e w' => e = .returned (.tuple #[.agg #[.int .i64 r1, .int .i64 r2, .int .i64 r3, .int .i64 r4], .bool r5]) ∧ Below w.heap.size w w' := by
 have hu25 := Try.underlying25
 have HB := Aside0.mk (Below.refl w.heap.size w)
 have H : ((impl_IsCircle.f a0_0 a0_1 a0_2 a0_3).bind fun t306 => (if t306 = true then (some (a0_0, a0_1, wrap64 (-a0_2), a0_3, true)) else (some (0, 0, 0, 0, false)))) = some (r1, r2, r3, r4, r5) := h
 clear h
 replace H := Option.bind_eq_some_iff.mp H
 obtain ⟨t306, A20, H⟩ := H
 replace H : (if t306 = true then (some (a0_0, a0_1, wrap64 (-a0_2), a0_3, true)) else (some (0, 0, 0, 0, false))) = some (r1, r2, r3, r4, r5) := H
 have A2 := Aside0.mk A20
 clear A20
 by_cases c3 : t306 = true
 ·
  subst c3
  have H1 : (some (a0_0, a0_1, wrap64 (-a0_2), a0_3, true)) = some (r1, r2, r3, r4, r5) := by rw [if_pos rfl] at H; exact H
  clear H
  have H := H1
  clear H1
  simp only [Option.some.injEq, Prod.mk.injEq] at H
  obtain ⟨rfl, rfl, rfl, rfl, rfl⟩ := H
  go_enter Try.func11, Try.ntmps11
  go_wp2_with (first | ((with_reducible refine gate_dst (N := 1) rfl ?_); refine boxN_ 1 #[.int .i64 a0_0, .int .i64 a0_1, .int .i64 a0_2, .int .i64 a0_3] 25 ?_; intro gb304 hg w4 hbox hb; have BK304 := Aside0.mk hbox; have GW304 := gw_ (w := w) Z111 hg; have GE304 := gw_ (w := w) Z111 hg; replace HB := Aside0.mk (below_step Z111 hb); clear hb hbox hg) | ((with_reducible refine gate_dst (N := 2) rfl ?_); refine boxN_ 2 #[.int .i64 0, .int .i64 0, .int .i64 0, .int .i64 0] 25 ?_; intro gb305 hg w5 hbox hb; have BK305 := Aside0.mk hbox; have GW305 := gw_ (w := w) Z44 hg; have GE305 := gw_ (w := w) Z44 hg; replace HB := Aside0.mk (below_step Z44 hb); have NB304_305 := nl_ BK304 hg; have NB305_304 := ng_ BK304 hg; replace BK304 := bk_ BK304 hb; clear hb hbox hg; have hnb6 := NB304_305.out; have hnc6 := NB305_304.out; obtain ⟨_, _, _, _, _, _, _, _⟩ := cz4_ BK304) | ((with_reducible refine gate_callee (f := 15) rfl ?_); refine goesN_ 15 (some 5) Try.func15 #[.agg #[.int .i64 a0_0, .int .i64 a0_1, .int .i64 a0_2, .int .i64 a0_3]] ?_; (with_reducible refine (impl_IsCircle.calls a0_0 a0_1 a0_2 a0_3 true _ A2.out).mono ?_); rintro e w8 ⟨rfl, hb⟩; refine ⟨_, rfl, ?_⟩; replace BK304 := bk_ BK304 hb; replace BK305 := bk_ BK305 hb; replace HB := Aside0.mk (below_step Z26 hb); clear hb; obtain ⟨_, _, _, _, _, _, _, _⟩ := cz4_ BK304; obtain ⟨_, _, _, _, _, _, _, _⟩ := cz4_ BK305))
  refine bodyPost_ret (results_ct rfl _ _ gb305 25 #[.int .i64 a0_0, .int .i64 a0_1, .int .i64 (wrap64 (-a0_2)), .int .i64 a0_3] (0, 0) _ rfl (by (with_reducible repeat (first | refine blk_drewN ?_ _ | refine blk_drew ?_ | refine blk_alloc ?_ _)); refine blk_put (cs := #[.int .i64 a0_0, .int .i64 a0_1, .int .i64 (wrap64 (-a0_2)), .int .i64 0]) ?_ 3 _ rfl; (with_reducible repeat (first | refine blk_drewN ?_ _ | refine blk_drew ?_ | refine blk_alloc ?_ _)); refine blk_put (cs := #[.int .i64 a0_0, .int .i64 a0_1, .int .i64 0, .int .i64 0]) ?_ 2 _ rfl; (with_reducible repeat (first | refine blk_drewN ?_ _ | refine blk_drew ?_ | refine blk_alloc ?_ _)); refine blk_put (cs := #[.int .i64 a0_0, .int .i64 0, .int .i64 0, .int .i64 0]) ?_ 1 _ rfl; (with_reducible repeat (first | refine blk_drewN ?_ _ | refine blk_drew ?_ | refine blk_alloc ?_ _)); refine blk_put (cs := #[.int .i64 0, .int .i64 0, .int .i64 0, .int .i64 0]) ?_ 0 _ rfl; (with_reducible repeat (first | refine blk_drewN ?_ _ | refine blk_drew ?_ | refine blk_alloc ?_ _)); exact BK305.out) Try.underlying25 rfl Z59) rfl ?_
  exact ⟨Z106, Z26⟩
 ·
  replace c3 := Bool.eq_false_iff.mpr c3
  subst c3
  have H1 : (some (0, 0, 0, 0, false)) = some (r1, r2, r3, r4, r5) := by rw [if_neg (show ¬ (false = true) by decide)] at H; exact H
  clear H
  have H := H1
  clear H1
  simp only [Option.some.injEq, Prod.mk.injEq] at H
  obtain ⟨rfl, rfl, rfl, rfl, rfl⟩ := H
  go_enter Try.func11, Try.ntmps11
  go_wp2_with (first | ((with_reducible refine gate_dst (N := 1) rfl ?_); refine boxN_ 1 #[.int .i64 a0_0, .int .i64 a0_1, .int .i64 a0_2, .int .i64 a0_3] 25 ?_; intro gb304 hg w11 hbox hb; have BK304 := Aside0.mk hbox; have GW304 := gw_ (w := w) Z111 hg; have GE304 := gw_ (w := w) Z111 hg; replace HB := Aside0.mk (below_step Z111 hb); clear hb hbox hg) | ((with_reducible refine gate_dst (N := 2) rfl ?_); refine boxN_ 2 #[.int .i64 0, .int .i64 0, .int .i64 0, .int .i64 0] 25 ?_; intro gb305 hg w12 hbox hb; have BK305 := Aside0.mk hbox; have GW305 := gw_ (w := w) Z44 hg; have GE305 := gw_ (w := w) Z44 hg; replace HB := Aside0.mk (below_step Z44 hb); have NB304_305 := nl_ BK304 hg; have NB305_304 := ng_ BK304 hg; replace BK304 := bk_ BK304 hb; clear hb hbox hg; have hnb13 := NB304_305.out; have hnc13 := NB305_304.out; obtain ⟨_, _, _, _, _, _, _, _⟩ := cz4_ BK304) | ((with_reducible refine gate_callee (f := 15) rfl ?_); refine goesN_ 15 (some 5) Try.func15 #[.agg #[.int .i64 a0_0, .int .i64 a0_1, .int .i64 a0_2, .int .i64 a0_3]] ?_; (with_reducible refine (impl_IsCircle.calls a0_0 a0_1 a0_2 a0_3 false _ A2.out).mono ?_); rintro e w15 ⟨rfl, hb⟩; refine ⟨_, rfl, ?_⟩; replace BK304 := bk_ BK304 hb; replace BK305 := bk_ BK305 hb; replace HB := Aside0.mk (below_step Z26 hb); clear hb; obtain ⟨_, _, _, _, _, _, _, _⟩ := cz4_ BK305))
  refine bodyPost_ret (results_ct rfl _ _ gb305 25 #[.int .i64 0, .int .i64 0, .int .i64 0, .int .i64 0] (0, 0) _ rfl (by (with_reducible repeat (first | refine blk_drewN ?_ _ | refine blk_drew ?_ | refine blk_alloc ?_ _)); refine blk_put (cs := #[.int .i64 0, .int .i64 0, .int .i64 0, .int .i64 0]) ?_ 3 _ rfl; (with_reducible repeat (first | refine blk_drewN ?_ _ | refine blk_drew ?_ | refine blk_alloc ?_ _)); refine blk_put (cs := #[.int .i64 0, .int .i64 0, .int .i64 0, .int .i64 0]) ?_ 2 _ rfl; (with_reducible repeat (first | refine blk_drewN ?_ _ | refine blk_drew ?_ | refine blk_alloc ?_ _)); refine blk_put (cs := #[.int .i64 0, .int .i64 0, .int .i64 0, .int .i64 0]) ?_ 1 _ rfl; (with_reducible repeat (first | refine blk_drewN ?_ _ | refine blk_drew ?_ | refine blk_alloc ?_ _)); refine blk_put (cs := #[.int .i64 0, .int .i64 0, .int .i64 0, .int .i64 0]) ?_ 0 _ rfl; (with_reducible repeat (first | refine blk_drewN ?_ _ | refine blk_drew ?_ | refine blk_alloc ?_ _)); exact BK305.out) Try.underlying25 rfl Z59) rfl ?_
  exact ⟨Z106, Z26⟩

/-! ### spec_DrawShiftCircle: function 12 -/
def spec_DrawShiftCircle.f (k : Nat) (l0 : List Int) : Option (Int × Int × Int × Int × Int × Int) := (spec_l1Cur_circle.f k l0 0 0).bind fun bt309 => ((spec_l1Cur_among.f l0 bt309.2.2.2.2.1 bt309.2.2.2.2.2 (([0, 1, (-1), 3, (-7), 1000, (-1000), 1001] : List Int))).bind fun bt318 => ((spec_l1Cur_among.f l0 bt318.2.1 bt318.2.2 (([0, 1, (-1), 2, 5, 1000, (-1001)] : List Int))).bind fun bt324 => (some (bt309.1, bt309.2.1, bt309.2.2.1, bt309.2.2.2.1, bt318.1, bt324.1))))
theorem spec_DrawShiftCircle.mono : ∀ a0 k, LeO (spec_DrawShiftCircle.f k a0) (spec_DrawShiftCircle.f (k + 1) a0) := by
  intro a0 k
  unfold spec_DrawShiftCircle.f
  repeat' first
      | (with_reducible exact spec_l1Cur_circle.mono _ _ _ _)
      | (with_reducible exact LeO.refl _)
      | (with_reducible exact LeO.none _)
      | (with_reducible refine LeO.ite ?_ ?_)
      | (with_reducible refine LeO.bind ?_ (fun _ => ?_))
      | exact spec_l1Cur_circle.mono _ _ _ _
      | exact LeO.none _
      | refine LeO.ite ?_ ?_
      | refine LeO.bind ?_ (fun _ => ?_)
set_option maxHeartbeats 8000000 in
set_option maxRecDepth 100000 in
theorem spec_DrawShiftCircle.calls (k : Nat) (A0 : Option Addr) (c0 : Nat) (l0 : List Int) (r1 : Int) (r2 : Int) (r3 : Int) (r4 : Int) (r5 : Int) (r6 : Int) (w : World) (hr0 : Kd.C (Kd.int .u8) w A0 l0.length l0) (hc0 : l0.length ≤ c0) (h : spec_DrawShiftCircle.f k l0 = some (r1, r2, r3, r4, r5, r6)) :
  Calls Try.prog 12 #[.slice A0 l0.length c0] w fun e w' => e = .returned (.tuple #[.agg #[.int .i64 r1, .int .i64 r2, .int .i64 r3, .int .i64 r4], .int .i64 r5, .int .i64 r6]) ∧ Below w.heap.size w w' := by
 have hu25 := Try.underlying25
 have hu42 := Try.underlying42
 have HR0 := Aside0.mk hr0
 have HC0 := Aside0.mk hc0
 clear hr0 hc0
 have HB := Aside0.mk (Below.refl w.heap.size w)
 have H : ((spec_l1Cur_circle.f k l0 0 0).bind fun bt309 => ((spec_l1Cur_among.f l0 bt309.2.2.2.2.1 bt309.2.2.2.2.2 (([0, 1, (-1), 3, (-7), 1000, (-1000), 1001] : List Int))).bind fun bt318 => ((spec_l1Cur_among.f l0 bt318.2.1 bt318.2.2 (([0, 1, (-1), 2, 5, 1000, (-1001)] : List Int))).bind fun bt324 => (some (bt309.1, bt309.2.1, bt309.2.2.1, bt309.2.2.2.1, bt318.1, bt324.1))))) = some (r1, r2, r3, r4, r5, r6) := h
 clear h
 replace H := Option.bind_eq_some_iff.mp H
 obtain ⟨⟨t309, t310, t311, t312, t313, t314⟩, A20, H⟩ := H
 replace H : ((spec_l1Cur_among.f l0 t313 t314 (([0, 1, (-1), 3, (-7), 1000, (-1000), 1001] : List Int))).bind fun bt318 => ((spec_l1Cur_among.f l0 bt318.2.1 bt318.2.2 (([0, 1, (-1), 2, 5, 1000, (-1001)] : List Int))).bind fun bt324 => (some (t309, t310, t311, t312, bt318.1, bt324.1)))) = some (r1, r2, r3, r4, r5, r6) := H
 have A2 := Aside0.mk A20
 clear A20
 obtain ⟨y315, hy315⟩ : ∃ y_ : List Int, y_ = (([0, 1, (-1), 3, (-7), 1000, (-1000), 1001] : List Int)) := ⟨_, rfl⟩
 replace H : ((spec_l1Cur_among.f l0 t313 t314 y315).bind fun bt318 => ((spec_l1Cur_among.f l0 bt318.2.1 bt318.2.2 (([0, 1, (-1), 2, 5, 1000, (-1001)] : List Int))).bind fun bt324 => (some (t309, t310, t311, t312, bt318.1, bt324.1)))) = some (r1, r2, r3, r4, r5, r6) := by first | (rw [hy315]; with_reducible exact H) | (have H2_ := (Option.bind_some _ _).symm.trans H; rw [hy315]; with_reducible exact H2_) | (have H2_ := (Option.bind_some _ _).symm.trans H; with_reducible exact H2_) | with_reducible exact H | (rw [hy315]; exact H) | exact H
 have Ny315 := Aside0.mk hy315
 clear hy315
 replace H := Option.bind_eq_some_iff.mp H
 obtain ⟨⟨t318, t319, t320⟩, A30, H⟩ := H
 replace H : ((spec_l1Cur_among.f l0 t319 t320 (([0, 1, (-1), 2, 5, 1000, (-1001)] : List Int))).bind fun bt324 => (some (t309, t310, t311, t312, t318, bt324.1))) = some (r1, r2, r3, r4, r5, r6) := H
 have A3 := Aside0.mk A30
 clear A30
 obtain ⟨y321, hy321⟩ : ∃ y_ : List Int, y_ = (([0, 1, (-1), 2, 5, 1000, (-1001)] : List Int)) := ⟨_, rfl⟩
 replace H : ((spec_l1Cur_among.f l0 t319 t320 y321).bind fun bt324 => (some (t309, t310, t311, t312, t318, bt324.1))) = some (r1, r2, r3, r4, r5, r6) := by first | (rw [hy321]; with_reducible exact H) | (have H2_ := (Option.bind_some _ _).symm.trans H; rw [hy321]; with_reducible exact H2_) | (have H2_ := (Option.bind_some _ _).symm.trans H; with_reducible exact H2_) | with_reducible exact H | (rw [hy321]; exact H) | exact H
 have Ny321 := Aside0.mk hy321
 clear hy321
 replace H := Option.bind_eq_some_iff.mp H
 obtain ⟨⟨t324, t325, t326⟩, A40, H⟩ := H
 replace H : (some (t309, t310, t311, t312, t318, t324)) = some (r1, r2, r3, r4, r5, r6) := H
 have A4 := Aside0.mk A40
 clear A40
 simp only [Option.some.injEq, Prod.mk.injEq] at H
 obtain ⟨rfl, rfl, rfl, rfl, rfl, rfl⟩ := H
 go_enter Try.func12, Try.ntmps12
 go_wp2_with (first | ((with_reducible refine gate_dst (N := 2) rfl ?_); refine boxN_ 2 #[.int .i64 0, .int .i64 0, .int .i64 0, .int .i64 0] 25 ?_; intro gb307 hg w5 hbox hb; have BK307 := Aside0.mk hbox; have GW307 := gw_ (w := w) Z111 hg; have GE307 := gw_ (w := w) Z111 hg; replace HB := Aside0.mk (below_step Z111 hb); clear hb hbox hg) | ((with_reducible refine gate_dst (N := 8) rfl ?_); refine boxN_ 8 #[.slice A0 l0.length c0, .int .i64 0, .int .u64 0] 42 ?_; intro gb308 hg w6 hbox hb; have NB307_308 := nl_ BK307 hg; have NB308_307 := ng_ BK307 hg; replace BK307 := bk_ BK307 hb; have HI308 := Aside0.mk ((show IsS42 w _ gb308 l0 0 0 from ⟨_, _, hbox, (by rw [hg]; exact (below_size (by repeat (first | (with_reducible first | exact HB.out | apply below_alloc | apply pw_below_drewN | apply below_drew1 | refine below_set ?_ GE307.out) | exact HB.out))) : w.heap.size ≤ gb308), HR0.out⟩)); replace HB := Aside0.mk (below_step (by repeat (first | (with_reducible first | exact HB.out | apply below_alloc | apply pw_below_drewN | apply below_drew1 | refine below_set ?_ GE307.out) | exact HB.out)) hb); clear hb hbox hg) | ((with_reducible refine gate_callee (f := 22) rfl ?_); refine goesN_ 22 (some 10) Try.func22 #[.pointer (some ⟨gb308, 0, none⟩)] ?_; (with_reducible refine (spec_l1Cur_circle.calls k gb308 l0 0 0 t309 t310 t311 t312 t313 t314 w _ ?side1 ?side2 A2.out).mono ?_); (case side1 => repeat (first | (with_reducible first | exact HI308.out | apply IsS42.alloc | apply IsS42.drewN | apply IsS42.drew | apply IsS42.set_1 | apply IsS42.set_2 | refine IsS42.far ?_ NB308_307.out _) | exact HI308.out)); (case side2 => repeat (first | (with_reducible first | exact HB.out | apply below_alloc | apply pw_below_drewN | apply below_drew1 | refine below_set ?_ (IsS42.ge HI308.out) | refine below_set ?_ GE307.out) | exact HB.out)); rintro e w7 ⟨rfl, hi, hb, hk⟩; refine ⟨_, rfl, ?_⟩; replace BK307 := Aside0.mk (KeepBut.blk hk (g' := gb307) (o := .cells #[.int .i64 0, .int .i64 0, .int .i64 0, .int .i64 0] 25 (0, 0)) Z5 NB307_308.out (by simp)); replace HB := Aside0.mk hb; replace HI308 := Aside0.mk hi; clear hb hk hi) | ((with_reducible refine gate_dst (N := 12) rfl ?_); refine Kd.R_lit (Kd.int .i64) _ 3 ?hg (N := 12) ?hd (xs := ([0, 1, (-1), 3, (-7), 1000, (-1000), 1001] : List Int)) (inner := [.int .i64 0, .int .i64 1, .int .i64 (-1), .int .i64 3, .int .i64 (-7), .int .i64 1000, .int .i64 (-1000), .int .i64 1001]) (ok := fun _ => True) (okp := fun _ => True) ?hr ?hp (fun _ hk => hk) trivial (Below.refl _ _) (Nat.le_refl _) (by simp) ?_; (case hd => rfl); (case hg => rfl); (case hr => first | (go_simp; done) | (go_simp; rfl)); (case hp => exact (Reps.one (show Kd.M (Kd.int .i64) _ _ _ 0 [.int .i64 0] from rfl) (Reps.one (show Kd.M (Kd.int .i64) _ _ _ 1 [.int .i64 1] from rfl) (Reps.one (show Kd.M (Kd.int .i64) _ _ _ (-1) [.int .i64 (-1)] from rfl) (Reps.one (show Kd.M (Kd.int .i64) _ _ _ 3 [.int .i64 3] from rfl) (Reps.one (show Kd.M (Kd.int .i64) _ _ _ (-7) [.int .i64 (-7)] from rfl) (Reps.one (show Kd.M (Kd.int .i64) _ _ _ 1000 [.int .i64 1000] from rfl) (Reps.one (show Kd.M (Kd.int .i64) _ _ _ (-1000) [.int .i64 (-1000)] from rfl) (Reps.one (show Kd.M (Kd.int .i64) _ _ _ 1001 [.int .i64 1001] from rfl) (Reps.none _ _)))))))))); intro v316 w8 ho9 hb hg_ hnew_; clear hg_ hnew_; (first | rw [← Ny315.out] at ho9 | (simp only [Int.reduceToNat] at ho9; rw [← Ny315.out] at ho9)); have HO317 := Aside0.mk (Kd.R_lower ho9 (below_size Z38)); replace BK307 := bk_ BK307 hb; replace HB := Aside0.mk (below_step Z38 hb); replace HI308 := Aside0.mk (IsS42.below (by repeat (first | (with_reducible first | exact HI308.out | apply IsS42.alloc | apply IsS42.drewN | apply IsS42.drew | apply IsS42.set_1 | apply IsS42.set_2 | refine IsS42.far ?_ NB308_307.out _) | exact HI308.out)) hb); clear hb ho9; obtain ⟨Ao10, co10, eo10⟩ := Kd.R_slice HO317.out; subst eo10) | ((with_reducible refine gate_callee (f := 27) rfl ?_); refine goesN_ 27 (some 13) Try.func27 #[.pointer (some ⟨gb308, 0, none⟩), .slice Ao10 y315.length co10] ?_; (with_reducible refine (spec_l1Cur_among.calls gb308 l0 t313 t314 _ _ y315 t318 t319 t320 w _ ?side1 ?side2 ?side3 ?side4 ?side5 A3.out).mono ?_); (case side1 => repeat (first | (with_reducible first | exact HI308.out | apply IsS42.alloc | apply IsS42.drewN | apply IsS42.drew | apply IsS42.set_1 | apply IsS42.set_2 | refine IsS42.far ?_ NB308_307.out _) | exact HI308.out)); (case side2 => repeat (first | (with_reducible first | exact HB.out | apply below_alloc | apply pw_below_drewN | apply below_drew1 | refine below_set ?_ (IsS42.ge HI308.out) | refine below_set ?_ GE307.out) | exact HB.out)); (case side3 => repeat (first | exact (Kd.R_reads' HO317.out).2.2 | (with_reducible refine Kd.C_alloc ?_ _) | (with_reducible refine Kd.C_drewN ?_ _) | (with_reducible refine Kd.C_drew ?_))); (case side4 => exact (Kd.R_reads' HO317.out).2.1); (case side5 => exact far_slice (IsS42.own_ne HI308.out HO317.out (by decide))); rintro e w11 ⟨rfl, hi, hb, hk⟩; refine ⟨_, rfl, ?_⟩; replace BK307 := Aside0.mk (KeepBut.blk hk (g' := gb307) (o := .cells #[.int .i64 0, .int .i64 0, .int .i64 0, .int .i64 0] 25 (0, 0)) Z5 NB307_308.out (by simp)); replace HO317 := Aside0.mk (Kd.R_mono (Kd.R_keep (IsS42.apart (show IsS42 w _ gb308 l0 t313 t314 from by repeat (first | (with_reducible first | exact HI308.out | apply IsS42.alloc | apply IsS42.drewN | apply IsS42.drew | apply IsS42.set_1 | apply IsS42.set_2 | refine IsS42.far ?_ NB308_307.out _) | exact HI308.out)) Z19 (by decide)) hk (fun _ h => h.2)) (fun _ h => h.1)); replace HB := Aside0.mk hb; replace HI308 := Aside0.mk hi; clear hb hk hi) | ((with_reducible refine gate_dst (N := 15) rfl ?_); refine Kd.R_lit (Kd.int .i64) _ 3 ?hg (N := 15) ?hd (xs := ([0, 1, (-1), 2, 5, 1000, (-1001)] : List Int)) (inner := [.int .i64 0, .int .i64 1, .int .i64 (-1), .int .i64 2, .int .i64 5, .int .i64 1000, .int .i64 (-1001)]) (ok := fun _ => True) (okp := fun _ => True) ?hr ?hp (fun _ hk => hk) trivial (Below.refl _ _) (Nat.le_refl _) (by simp) ?_; (case hd => rfl); (case hg => rfl); (case hr => first | (go_simp; done) | (go_simp; rfl)); (case hp => exact (Reps.one (show Kd.M (Kd.int .i64) _ _ _ 0 [.int .i64 0] from rfl) (Reps.one (show Kd.M (Kd.int .i64) _ _ _ 1 [.int .i64 1] from rfl) (Reps.one (show Kd.M (Kd.int .i64) _ _ _ (-1) [.int .i64 (-1)] from rfl) (Reps.one (show Kd.M (Kd.int .i64) _ _ _ 2 [.int .i64 2] from rfl) (Reps.one (show Kd.M (Kd.int .i64) _ _ _ 5 [.int .i64 5] from rfl) (Reps.one (show Kd.M (Kd.int .i64) _ _ _ 1000 [.int .i64 1000] from rfl) (Reps.one (show Kd.M (Kd.int .i64) _ _ _ (-1001) [.int .i64 (-1001)] from rfl) (Reps.none _ _))))))))); intro v322 w12 ho13 hb hg_ hnew_; clear hg_ hnew_; (first | rw [← Ny321.out] at ho13 | (simp only [Int.reduceToNat] at ho13; rw [← Ny321.out] at ho13)); have HO323 := Aside0.mk (Kd.R_lower (Kd.R_new' ho13 (Kd.R_lt Z19)) (below_size Z38)); replace HO317 := Aside0.mk (Kd.R_elder' Z19 (Kd.R_base ho13) hb); replace BK307 := bk_ BK307 hb; replace HB := Aside0.mk (below_step Z38 hb); replace HI308 := Aside0.mk (IsS42.below (by repeat (first | (with_reducible first | exact HI308.out | apply IsS42.alloc | apply IsS42.drewN | apply IsS42.drew | apply IsS42.set_1 | apply IsS42.set_2 | refine IsS42.far ?_ NB308_307.out _) | exact HI308.out)) hb); clear hb ho13; obtain ⟨Ao14, co14, eo14⟩ := Kd.R_slice HO323.out; subst eo14) | ((with_reducible refine gate_callee (f := 27) rfl ?_); refine goesN_ 27 (some 16) Try.func27 #[.pointer (some ⟨gb308, 0, none⟩), .slice Ao14 y321.length co14] ?_; (with_reducible refine (spec_l1Cur_among.calls gb308 l0 t319 t320 _ _ y321 t324 t325 t326 w _ ?side1 ?side2 ?side3 ?side4 ?side5 A4.out).mono ?_); (case side1 => repeat (first | (with_reducible first | exact HI308.out | apply IsS42.alloc | apply IsS42.drewN | apply IsS42.drew | apply IsS42.set_1 | apply IsS42.set_2 | refine IsS42.far ?_ NB308_307.out _) | exact HI308.out)); (case side2 => repeat (first | (with_reducible first | exact HB.out | apply below_alloc | apply pw_below_drewN | apply below_drew1 | refine below_set ?_ (IsS42.ge HI308.out) | refine below_set ?_ GE307.out) | exact HB.out)); (case side3 => repeat (first | exact (Kd.R_reads' HO323.out).2.2 | (with_reducible refine Kd.C_alloc ?_ _) | (with_reducible refine Kd.C_drewN ?_ _) | (with_reducible refine Kd.C_drew ?_))); (case side4 => exact (Kd.R_reads' HO323.out).2.1); (case side5 => exact far_slice (IsS42.own_ne HI308.out HO323.out (by decide))); rintro e w15 ⟨rfl, hi, hb, hk⟩; refine ⟨_, rfl, ?_⟩; replace BK307 := Aside0.mk (KeepBut.blk hk (g' := gb307) (o := .cells #[.int .i64 0, .int .i64 0, .int .i64 0, .int .i64 0] 25 (0, 0)) Z5 NB307_308.out (by simp)); replace HO317 := Aside0.mk (Kd.R_mono (Kd.R_keep (IsS42.apart (show IsS42 w _ gb308 l0 t319 t320 from by repeat (first | (with_reducible first | exact HI308.out | apply IsS42.alloc | apply IsS42.drewN | apply IsS42.drew | apply IsS42.set_1 | apply IsS42.set_2 | refine IsS42.far ?_ NB308_307.out _) | exact HI308.out)) Z19 (by decide)) hk (fun _ h => h.2)) (fun _ h => h.1)); replace HO323 := Aside0.mk (Kd.R_mono (Kd.R_keep (IsS42.apart (show IsS42 w _ gb308 l0 t319 t320 from by repeat (first | (with_reducible first | exact HI308.out | apply IsS42.alloc | apply IsS42.drewN | apply IsS42.drew | apply IsS42.set_1 | apply IsS42.set_2 | refine IsS42.far ?_ NB308_307.out _) | exact HI308.out)) (by (with_reducible repeat (first | apply Kd.R_alloc | apply Kd.R_drewN | apply Kd.R_drew)); exact HO323.out) (by decide)) hk (fun _ h => h.2)) (fun _ h => h.1)); replace HB := Aside0.mk hb; replace HI308 := Aside0.mk hi; clear hb hk hi; have hnb16 := NB307_308.out; have hnc16 := NB308_307.out; obtain ⟨_, _, _, _, _, _, _, _⟩ := cz4_ BK307))
 refine bodyPost_ret (results_ctt rfl _ _ gb307 25 #[.int .i64 t309, .int .i64 t310, .int .i64 t311, .int .i64 t312] (0, 0) _ rfl (by (with_reducible repeat (first | refine blk_drewN ?_ _ | refine blk_drew ?_ | refine blk_alloc ?_ _)); refine blk_put (cs := #[.int .i64 t309, .int .i64 t310, .int .i64 t311, .int .i64 0]) ?_ 3 _ rfl; (with_reducible repeat (first | refine blk_drewN ?_ _ | refine blk_drew ?_ | refine blk_alloc ?_ _)); refine blk_put (cs := #[.int .i64 t309, .int .i64 t310, .int .i64 0, .int .i64 0]) ?_ 2 _ rfl; (with_reducible repeat (first | refine blk_drewN ?_ _ | refine blk_drew ?_ | refine blk_alloc ?_ _)); refine blk_put (cs := #[.int .i64 t309, .int .i64 0, .int .i64 0, .int .i64 0]) ?_ 1 _ rfl; (with_reducible repeat (first | refine blk_drewN ?_ _ | refine blk_drew ?_ | refine blk_alloc ?_ _)); refine blk_put (cs := #[.int .i64 0, .int .i64 0, .int .i64 0, .int .i64 0]) ?_ 0 _ rfl; (with_reducible repeat (first | refine blk_drewN ?_ _ | refine blk_drew ?_ | refine blk_alloc ?_ _)); exact BK307.out) Try.underlying25 rfl Z59) rfl ?_
 exact ⟨Z106, Z38⟩

/-! ### impl_drawn: function 29 -/
def impl_drawn.f (a0_0 : Int) (a0_1 : Int) (a0_2 : Int) (a0_3 : Int) : Option (Int × Int × Int × Int × Bool) := (impl_Circle_numbers.f a0_0 a0_1 a0_2 a0_3).bind fun t329 => ((impl_allWithin.f t329 (-1000000) 1000000).bind fun t332 => (if t332 = true then (some (a0_0, a0_1, a0_2, a0_3, true)) else (some (0, 0, 0, 0, false))))
set_option maxHeartbeats 8000000 in
set_option maxRecDepth 100000 in
theorem impl_drawn.calls (a0_0 : Int) (a0_1 : Int) (a0_2 : Int) (a0_3 : Int) (r1 : Int) (r2 : Int) (r3 : Int) (r4 : Int) (r5 : Bool) (w : World) (h : impl_drawn.f a0_0 a0_1 a0_2 a0_3 = some (r1, r2, r3, r4, r5)) :
  Calls Try.prog 29 #[.agg #[.int .i64 a0_0, .int .i64 a0_1, .int .i64 a0_2, .int .i64 a0_3]] w fun e w' => e = .returned (.tuple #[.agg #[.int .i64 r1, .int .i64 r2, .int .i64 r3, .int .i64 r4], .bool r5]) ∧ Below w.heap.size w w' := by
 have hu25 := Try.underlying25
 have HB := Aside0.mk (Below.refl w.heap.size w)
 have H : ((impl_Circle_numbers.f a0_0 a0_1 a0_2 a0_3).bind fun t329 => ((impl_allWithin.f t329 (-1000000) 1000000).bind fun t332 => (if t332 = true then (some (a0_0, a0_1, a0_2, a0_3, true)) else (some (0, 0, 0, 0, false))))) = some (r1, r2, r3, r4, r5) := h
 clear h
 replace H := Option.bind_eq_some_iff.mp H
 obtain ⟨t329, A20, H⟩ := H
 replace H : ((impl_allWithin.f t329 (-1000000) 1000000).bind fun t332 => (if t332 = true then (some (a0_0, a0_1, a0_2, a0_3, true)) else (some (0, 0, 0, 0, false)))) = some (r1, r2, r3, r4, r5) := H
 have A2 := Aside0.mk A20
 clear A20
 replace H := Option.bind_eq_some_iff.mp H
 obtain ⟨t332, A30, H⟩ := H
 replace H : (if t332 = true then (some (a0_0, a0_1, a0_2, a0_3, true)) else (some (0, 0, 0, 0, false))) = some (r1, r2, r3, r4, r5) := H
 have A3 := Aside0.mk A30
 clear A30
 by_cases c4 : t332 = true
 ·
  subst c4
  have H1 : (some (a0_0, a0_1, a0_2, a0_3, true)) = some (r1, r2, r3, r4, r5) := by rw [if_pos rfl] at H; exact H
  clear H
  have H := H1
  clear H1
  simp only [Option.some.injEq, Prod.mk.injEq] at H
  obtain ⟨rfl, rfl, rfl, rfl, rfl⟩ := H
  go_enter Try.func29, Try.ntmps29
  go_wp2_with (first | ((with_reducible refine gate_dst (N := 1) rfl ?_); refine boxN_ 1 #[.int .i64 a0_0, .int .i64 a0_1, .int .i64 a0_2, .int .i64 a0_3] 25 ?_; intro gb327 hg w5 hbox hb; have BK327 := Aside0.mk hbox; have GW327 := gw_ (w := w) Z111 hg; have GE327 := gw_ (w := w) Z111 hg; replace HB := Aside0.mk (below_step Z111 hb); clear hb hbox hg) | ((with_reducible refine gate_dst (N := 2) rfl ?_); refine boxN_ 2 #[.int .i64 0, .int .i64 0, .int .i64 0, .int .i64 0] 25 ?_; intro gb328 hg w6 hbox hb; have BK328 := Aside0.mk hbox; have GW328 := gw_ (w := w) Z45 hg; have GE328 := gw_ (w := w) Z45 hg; replace HB := Aside0.mk (below_step Z45 hb); have NB327_328 := nl_ BK327 hg; have NB328_327 := ng_ BK327 hg; replace BK327 := bk_ BK327 hb; clear hb hbox hg; have hnb7 := NB327_328.out; have hnc7 := NB328_327.out; obtain ⟨_, _, _, _, _, _, _, _⟩ := cz4_ BK327) | ((with_reducible refine gate_callee (f := 33) rfl ?_); refine goesN_ 33 (some 5) Try.func33 #[.agg #[.int .i64 a0_0, .int .i64 a0_1, .int .i64 a0_2, .int .i64 a0_3]] ?_; (with_reducible refine (impl_Circle_numbers.calls a0_0 a0_1 a0_2 a0_3 t329 _ A2.out).mono ?_); rintro e w9 ⟨v330, rfl, ho0, hb⟩; refine ⟨_, rfl, ?_⟩; have HO331 := Aside0.mk (Kd.R_lower ho0 (below_size Z78)); replace BK327 := bk_ BK327 hb; replace BK328 := bk_ BK328 hb; replace HB := Aside0.mk (below_step Z78 hb); clear hb; (try clear ho0); obtain ⟨Ao10, co10, eo10⟩ := Kd.R_slice HO331.out; subst eo10) | ((with_reducible refine gate_callee (f := 32) rfl ?_); refine goesN_ 32 (some 6) Try.func32 #[.slice Ao10 t329.length co10, .int .i64 (-1000000), .int .i64 1000000] ?_; (with_reducible refine (impl_allWithin.calls _ _ t329 (-1000000) 1000000 true _ ?side1 ?side2 A3.out).mono ?_); (case side1 => repeat (first | exact (Kd.R_reads' HO331.out).2.2 | (with_reducible refine Kd.C_alloc ?_ _) | (with_reducible refine Kd.C_drewN ?_ _) | (with_reducible refine Kd.C_drew ?_))); (case side2 => exact (Kd.R_reads' HO331.out).2.1); rintro e w11 ⟨rfl, hb⟩; refine ⟨_, rfl, ?_⟩; replace HO331 := Aside0.mk (Kd.R_below (by (with_reducible repeat (first | apply Kd.R_alloc | apply Kd.R_drewN | apply Kd.R_drew)); exact HO331.out) hb); replace BK327 := bk_ BK327 hb; replace BK328 := bk_ BK328 hb; replace HB := Aside0.mk (below_step Z78 hb); clear hb; obtain ⟨_, _, _, _, _, _, _, _⟩ := cz4_ BK327; obtain ⟨_, _, _, _, _, _, _, _⟩ := cz4_ BK328))
  refine bodyPost_ret (results_ct rfl _ _ gb328 25 #[.int .i64 a0_0, .int .i64 a0_1, .int .i64 a0_2, .int .i64 a0_3] (0, 0) _ rfl (by (with_reducible repeat (first | refine blk_drewN ?_ _ | refine blk_drew ?_ | refine blk_alloc ?_ _)); refine blk_put (cs := #[.int .i64 a0_0, .int .i64 a0_1, .int .i64 a0_2, .int .i64 0]) ?_ 3 _ rfl; (with_reducible repeat (first | refine blk_drewN ?_ _ | refine blk_drew ?_ | refine blk_alloc ?_ _)); refine blk_put (cs := #[.int .i64 a0_0, .int .i64 a0_1, .int .i64 0, .int .i64 0]) ?_ 2 _ rfl; (with_reducible repeat (first | refine blk_drewN ?_ _ | refine blk_drew ?_ | refine blk_alloc ?_ _)); refine blk_put (cs := #[.int .i64 a0_0, .int .i64 0, .int .i64 0, .int .i64 0]) ?_ 1 _ rfl; (with_reducible repeat (first | refine blk_drewN ?_ _ | refine blk_drew ?_ | refine blk_alloc ?_ _)); refine blk_put (cs := #[.int .i64 0, .int .i64 0, .int .i64 0, .int .i64 0]) ?_ 0 _ rfl; (with_reducible repeat (first | refine blk_drewN ?_ _ | refine blk_drew ?_ | refine blk_alloc ?_ _)); exact BK328.out) Try.underlying25 rfl Z59) rfl ?_
  exact ⟨Z106, Z78⟩
 ·
  replace c4 := Bool.eq_false_iff.mpr c4
  subst c4
  have H1 : (some (0, 0, 0, 0, false)) = some (r1, r2, r3, r4, r5) := by rw [if_neg (show ¬ (false = true) by decide)] at H; exact H
  clear H
  have H := H1
  clear H1
  simp only [Option.some.injEq, Prod.mk.injEq] at H
  obtain ⟨rfl, rfl, rfl, rfl, rfl⟩ := H
  go_enter Try.func29, Try.ntmps29
  go_wp2_with (first | ((with_reducible refine gate_dst (N := 1) rfl ?_); refine boxN_ 1 #[.int .i64 a0_0, .int .i64 a0_1, .int .i64 a0_2, .int .i64 a0_3] 25 ?_; intro gb327 hg w14 hbox hb; have BK327 := Aside0.mk hbox; have GW327 := gw_ (w := w) Z111 hg; have GE327 := gw_ (w := w) Z111 hg; replace HB := Aside0.mk (below_step Z111 hb); clear hb hbox hg) | ((with_reducible refine gate_dst (N := 2) rfl ?_); refine boxN_ 2 #[.int .i64 0, .int .i64 0, .int .i64 0, .int .i64 0] 25 ?_; intro gb328 hg w15 hbox hb; have BK328 := Aside0.mk hbox; have GW328 := gw_ (w := w) Z45 hg; have GE328 := gw_ (w := w) Z45 hg; replace HB := Aside0.mk (below_step Z45 hb); have NB327_328 := nl_ BK327 hg; have NB328_327 := ng_ BK327 hg; replace BK327 := bk_ BK327 hb; clear hb hbox hg; have hnb16 := NB327_328.out; have hnc16 := NB328_327.out; obtain ⟨_, _, _, _, _, _, _, _⟩ := cz4_ BK327) | ((with_reducible refine gate_callee (f := 33) rfl ?_); refine goesN_ 33 (some 5) Try.func33 #[.agg #[.int .i64 a0_0, .int .i64 a0_1, .int .i64 a0_2, .int .i64 a0_3]] ?_; (with_reducible refine (impl_Circle_numbers.calls a0_0 a0_1 a0_2 a0_3 t329 _ A2.out).mono ?_); rintro e w18 ⟨v330, rfl, ho0, hb⟩; refine ⟨_, rfl, ?_⟩; have HO331 := Aside0.mk (Kd.R_lower ho0 (below_size Z78)); replace BK327 := bk_ BK327 hb; replace BK328 := bk_ BK328 hb; replace HB := Aside0.mk (below_step Z78 hb); clear hb; (try clear ho0); obtain ⟨Ao19, co19, eo19⟩ := Kd.R_slice HO331.out; subst eo19) | ((with_reducible refine gate_callee (f := 32) rfl ?_); refine goesN_ 32 (some 6) Try.func32 #[.slice Ao19 t329.length co19, .int .i64 (-1000000), .int .i64 1000000] ?_; (with_reducible refine (impl_allWithin.calls _ _ t329 (-1000000) 1000000 false _ ?side1 ?side2 A3.out).mono ?_); (case side1 => repeat (first | exact (Kd.R_reads' HO331.out).2.2 | (with_reducible refine Kd.C_alloc ?_ _) | (with_reducible refine Kd.C_drewN ?_ _) | (with_reducible refine Kd.C_drew ?_))); (case side2 => exact (Kd.R_reads' HO331.out).2.1); rintro e w20 ⟨rfl, hb⟩; refine ⟨_, rfl, ?_⟩; replace HO331 := Aside0.mk (Kd.R_below (by (with_reducible repeat (first | apply Kd.R_alloc | apply Kd.R_drewN | apply Kd.R_drew)); exact HO331.out) hb); replace BK327 := bk_ BK327 hb; replace BK328 := bk_ BK328 hb; replace HB := Aside0.mk (below_step Z78 hb); clear hb; obtain ⟨_, _, _, _, _, _, _, _⟩ := cz4_ BK328))
  refine bodyPost_ret (results_ct rfl _ _ gb328 25 #[.int .i64 0, .int .i64 0, .int .i64 0, .int .i64 0] (0, 0) _ rfl (by (with_reducible repeat (first | refine blk_drewN ?_ _ | refine blk_drew ?_ | refine blk_alloc ?_ _)); refine blk_put (cs := #[.int .i64 0, .int .i64 0, .int .i64 0, .int .i64 0]) ?_ 3 _ rfl; (with_reducible repeat (first | refine blk_drewN ?_ _ | refine blk_drew ?_ | refine blk_alloc ?_ _)); refine blk_put (cs := #[.int .i64 0, .int .i64 0, .int .i64 0, .int .i64 0]) ?_ 2 _ rfl; (with_reducible repeat (first | refine blk_drewN ?_ _ | refine blk_drew ?_ | refine blk_alloc ?_ _)); refine blk_put (cs := #[.int .i64 0, .int .i64 0, .int .i64 0, .int .i64 0]) ?_ 1 _ rfl; (with_reducible repeat (first | refine blk_drewN ?_ _ | refine blk_drew ?_ | refine blk_alloc ?_ _)); refine blk_put (cs := #[.int .i64 0, .int .i64 0, .int .i64 0, .int .i64 0]) ?_ 0 _ rfl; (with_reducible repeat (first | refine blk_drewN ?_ _ | refine blk_drew ?_ | refine blk_alloc ?_ _)); exact BK328.out) Try.underlying25 rfl Z59) rfl ?_
  exact ⟨Z106, Z78⟩

/-! ### impl_ShiftCircle: function 13 -/
def impl_ShiftCircle.f (a0_0 : Int) (a0_1 : Int) (a0_2 : Int) (a0_3 : Int) (a1 : Int) (a2 : Int) : Option (Int × Int × Int × Int × Bool) := (impl_IsCircle.f a0_0 a0_1 a0_2 a0_3).bind fun t335 => (if t335 = true then ((impl_within.f a1 (-1000) 1000).bind fun t336 => (if t336 = true then ((impl_within.f a2 (-1000) 1000).bind fun t337 => (if t337 = true then ((impl_drawn.f (wrap64 ((wrap64 (a0_0 + (wrap64 (2 * (wrap64 ((wrap64 (a0_2 * a1)) + (wrap64 (a0_3 * a2)))))))) + (wrap64 (a0_1 * (wrap64 ((wrap64 (a1 * a1)) + (wrap64 (a2 * a2)))))))) a0_1 (wrap64 (a0_2 + (wrap64 (a0_1 * a1)))) (wrap64 (a0_3 + (wrap64 (a0_1 * a2))))).bind fun bt338 => (some (bt338.1, bt338.2.1, bt338.2.2.1, bt338.2.2.2.1, bt338.2.2.2.2))) else (some (0, 0, 0, 0, false)))) else (some (0, 0, 0, 0, false)))) else (some (0, 0, 0, 0, false)))
set_option maxHeartbeats 8000000 in
set_option maxRecDepth 100000 in
theorem impl_ShiftCircle.calls (a0_0 : Int) (a0_1 : Int) (a0_2 : Int) (a0_3 : Int) (a1 : Int) (a2 : Int) (r1 : Int) (r2 : Int) (r3 : Int) (r4 : Int) (r5 : Bool) (w : World) (h : impl_ShiftCircle.f a0_0 a0_1 a0_2 a0_3 a1 a2 = some (r1, r2, r3, r4, r5)) :
  Calls Try.prog 13 #[.agg #[.int .i64 a0_0, .int .i64 a0_1, .int .i64 a0_2, .int .i64 a0_3], .int .i64 a1, .int .i64 a2] w fun e w' => e = .returned (.tuple #[.agg #[.int .i64 r1, .int .i64 r2, .int .i64 r3, .int .i64 r4], .bool r5]) ∧ Below w.heap.size w w' := by
 have hu25 := Try.underlying25
 have HB := Aside0.mk (Below.refl w.heap.size w)
 have H : ((impl_IsCircle.f a0_0 a0_1 a0_2 a0_3).bind fun t335 => (if t335 = true then ((impl_within.f a1 (-1000) 1000).bind fun t336 => (if t336 = true then ((impl_within.f a2 (-1000) 1000).bind fun t337 => (if t337 = true then ((impl_drawn.f (wrap64 ((wrap64 (a0_0 + (wrap64 (2 * (wrap64 ((wrap64 (a0_2 * a1)) + (wrap64 (a0_3 * a2)))))))) + (wrap64 (a0_1 * (wrap64 ((wrap64 (a1 * a1)) + (wrap64 (a2 * a2)))))))) a0_1 (wrap64 (a0_2 + (wrap64 (a0_1 * a1)))) (wrap64 (a0_3 + (wrap64 (a0_1 * a2))))).bind fun bt338 => (some (bt338.1, bt338.2.1, bt338.2.2.1, bt338.2.2.2.1, bt338.2.2.2.2))) else (some (0, 0, 0, 0, false)))) else (some (0, 0, 0, 0, false)))) else (some (0, 0, 0, 0, false)))) = some (r1, r2, r3, r4, r5) := h
 clear h
 replace H := Option.bind_eq_some_iff.mp H
 obtain ⟨t335, A40, H⟩ := H
 replace H : (if t335 = true then ((impl_within.f a1 (-1000) 1000).bind fun t336 => (if t336 = true then ((impl_within.f a2 (-1000) 1000).bind fun t337 => (if t337 = true then ((impl_drawn.f (wrap64 ((wrap64 (a0_0 + (wrap64 (2 * (wrap64 ((wrap64 (a0_2 * a1)) + (wrap64 (a0_3 * a2)))))))) + (wrap64 (a0_1 * (wrap64 ((wrap64 (a1 * a1)) + (wrap64 (a2 * a2)))))))) a0_1 (wrap64 (a0_2 + (wrap64 (a0_1 * a1)))) (wrap64 (a0_3 + (wrap64 (a0_1 * a2))))).bind fun bt338 => (some (bt338.1, bt338.2.1, bt338.2.2.1, bt338.2.2.2.1, bt338.2.2.2.2))) else (some (0, 0, 0, 0, false)))) else (some (0, 0, 0, 0, false)))) else (some (0, 0, 0, 0, false))) = some (r1, r2, r3, r4, r5) := H
 have A4 := Aside0.mk A40
 clear A40
 by_cases c5 : t335 = true
 ·
  subst c5
  have H1 : ((impl_within.f a1 (-1000) 1000).bind fun t336 => (if t336 = true then ((impl_within.f a2 (-1000) 1000).bind fun t337 => (if t337 = true then ((impl_drawn.f (wrap64 ((wrap64 (a0_0 + (wrap64 (2 * (wrap64 ((wrap64 (a0_2 * a1)) + (wrap64 (a0_3 * a2)))))))) + (wrap64 (a0_1 * (wrap64 ((wrap64 (a1 * a1)) + (wrap64 (a2 * a2)))))))) a0_1 (wrap64 (a0_2 + (wrap64 (a0_1 * a1)))) (wrap64 (a0_3 + (wrap64 (a0_1 * a2))))).bind fun bt338 => (some (bt338.1, bt338.2.1, bt338.2.2.1, bt338.2.2.2.1, bt338.2.2.2.2))) else (some (0, 0, 0, 0, false)))) else (some (0, 0, 0, 0, false)))) = some (r1, r2, r3, r4, r5) := by rw [if_pos rfl] at H; exact H
  clear H
  have H := H1
  clear H1
  replace H := Option.bind_eq_some_iff.mp H
  obtain ⟨t336, A60, H⟩ := H
  replace H : (if t336 = true then ((impl_within.f a2 (-1000) 1000).bind fun t337 => (if t337 = true then ((impl_drawn.f (wrap64 ((wrap64 (a0_0 + (wrap64 (2 * (wrap64 ((wrap64 (a0_2 * a1)) + (wrap64 (a0_3 * a2)))))))) + (wrap64 (a0_1 * (wrap64 ((wrap64 (a1 * a1)) + (wrap64 (a2 * a2)))))))) a0_1 (wrap64 (a0_2 + (wrap64 (a0_1 * a1)))) (wrap64 (a0_3 + (wrap64 (a0_1 * a2))))).bind fun bt338 => (some (bt338.1, bt338.2.1, bt338.2.2.1, bt338.2.2.2.1, bt338.2.2.2.2))) else (some (0, 0, 0, 0, false)))) else (some (0, 0, 0, 0, false))) = some (r1, r2, r3, r4, r5) := H
  have A6 := Aside0.mk A60
  clear A60
  by_cases c7 : t336 = true
  ·
   subst c7
   have H1 : ((impl_within.f a2 (-1000) 1000).bind fun t337 => (if t337 = true then ((impl_drawn.f (wrap64 ((wrap64 (a0_0 + (wrap64 (2 * (wrap64 ((wrap64 (a0_2 * a1)) + (wrap64 (a0_3 * a2)))))))) + (wrap64 (a0_1 * (wrap64 ((wrap64 (a1 * a1)) + (wrap64 (a2 * a2)))))))) a0_1 (wrap64 (a0_2 + (wrap64 (a0_1 * a1)))) (wrap64 (a0_3 + (wrap64 (a0_1 * a2))))).bind fun bt338 => (some (bt338.1, bt338.2.1, bt338.2.2.1, bt338.2.2.2.1, bt338.2.2.2.2))) else (some (0, 0, 0, 0, false)))) = some (r1, r2, r3, r4, r5) := by rw [if_pos rfl] at H; exact H
   clear H
   have H := H1
   clear H1
   replace H := Option.bind_eq_some_iff.mp H
   obtain ⟨t337, A80, H⟩ := H
   replace H : (if t337 = true then ((impl_drawn.f (wrap64 ((wrap64 (a0_0 + (wrap64 (2 * (wrap64 ((wrap64 (a0_2 * a1)) + (wrap64 (a0_3 * a2)))))))) + (wrap64 (a0_1 * (wrap64 ((wrap64 (a1 * a1)) + (wrap64 (a2 * a2)))))))) a0_1 (wrap64 (a0_2 + (wrap64 (a0_1 * a1)))) (wrap64 (a0_3 + (wrap64 (a0_1 * a2))))).bind fun bt338 => (some (bt338.1, bt338.2.1, bt338.2.2.1, bt338.2.2.2.1, bt338.2.2.2.2))) else (some (0, 0, 0, 0, false))) = some (r1, r2, r3, r4, r5) := H
   have A8 := Aside0.mk A80
   clear A80
   by_cases c9 : t337 = true
   ·
    subst c9
    have H1 : ((impl_drawn.f (wrap64 ((wrap64 (a0_0 + (wrap64 (2 * (wrap64 ((wrap64 (a0_2 * a1)) + (wrap64 (a0_3 * a2)))))))) + (wrap64 (a0_1 * (wrap64 ((wrap64 (a1 * a1)) + (wrap64 (a2 * a2)))))))) a0_1 (wrap64 (a0_2 + (wrap64 (a0_1 * a1)))) (wrap64 (a0_3 + (wrap64 (a0_1 * a2))))).bind fun bt338 => (some (bt338.1, bt338.2.1, bt338.2.2.1, bt338.2.2.2.1, bt338.2.2.2.2))) = some (r1, r2, r3, r4, r5) := by rw [if_pos rfl] at H; exact H
    clear H
    have H := H1
    clear H1
    replace H := Option.bind_eq_some_iff.mp H
    obtain ⟨⟨t338, t339, t340, t341, t342⟩, A100, H⟩ := H
    replace H : (some (t338, t339, t340, t341, t342)) = some (r1, r2, r3, r4, r5) := H
    have A10 := Aside0.mk A100
    clear A100
    simp only [Option.some.injEq, Prod.mk.injEq] at H
    obtain ⟨rfl, rfl, rfl, rfl, rfl⟩ := H
    go_enter Try.func13, Try.ntmps13
    go_wp2_with (first | ((with_reducible refine gate_dst (N := 3) rfl ?_); refine boxN_ 3 #[.int .i64 a0_0, .int .i64 a0_1, .int .i64 a0_2, .int .i64 a0_3] 25 ?_; intro gb333 hg w11 hbox hb; have BK333 := Aside0.mk hbox; have GW333 := gw_ (w := w) Z111 hg; have GE333 := gw_ (w := w) Z111 hg; replace HB := Aside0.mk (below_step Z111 hb); clear hb hbox hg) | ((with_reducible refine gate_dst (N := 6) rfl ?_); refine boxN_ 6 #[.int .i64 0, .int .i64 0, .int .i64 0, .int .i64 0] 25 ?_; intro gb334 hg w12 hbox hb; have BK334 := Aside0.mk hbox; have GW334 := gw_ (w := w) Z87 hg; have GE334 := gw_ (w := w) Z87 hg; replace HB := Aside0.mk (below_step Z87 hb); have NB333_334 := nl_ BK333 hg; have NB334_333 := ng_ BK333 hg; replace BK333 := bk_ BK333 hb; clear hb hbox hg; have hnb13 := NB333_334.out; have hnc13 := NB334_333.out; obtain ⟨_, _, _, _, _, _, _, _⟩ := cz4_ BK333) | ((with_reducible refine gate_callee (f := 15) rfl ?_); refine goesN_ 15 (some 9) Try.func15 #[.agg #[.int .i64 a0_0, .int .i64 a0_1, .int .i64 a0_2, .int .i64 a0_3]] ?_; (with_reducible refine (impl_IsCircle.calls a0_0 a0_1 a0_2 a0_3 true _ A4.out).mono ?_); rintro e w15 ⟨rfl, hb⟩; refine ⟨_, rfl, ?_⟩; replace BK333 := bk_ BK333 hb; replace BK334 := bk_ BK334 hb; replace HB := Aside0.mk (below_step Z97 hb); clear hb) | (go_at_call 28; (with_reducible refine (impl_within.calls a1 (-1000) 1000 true _ A6.out).mono ?_); rintro e w' ⟨rfl, ⟨nd, rfl⟩⟩; (try (rw [drewN_self w15]; generalize hq_ : World.drewN w15 _ = w15; replace BK333 := bq_ BK333 hq_; replace BK334 := bq_ BK334 hq_; replace HB : Aside0 (Below w.heap.size w w15) := ⟨(by rw [← hq_]; exact Z97)⟩; clear hq_))) | (go_at_call 28; (with_reducible refine (impl_within.calls a2 (-1000) 1000 true _ A8.out).mono ?_); rintro e w' ⟨rfl, ⟨nd, rfl⟩⟩; (try (rw [drewN_self w15]; generalize hq_ : World.drewN w15 _ = w15; replace BK333 := bq_ BK333 hq_; replace BK334 := bq_ BK334 hq_; replace HB : Aside0 (Below w.heap.size w w15) := ⟨(by rw [← hq_]; exact Z97)⟩; clear hq_)); obtain ⟨_, _, _, _, _, _, _, _⟩ := cz4_ BK333) | ((with_reducible refine gate_callee (f := 29) rfl ?_); refine goesN_ 29 (some 63) Try.func29 #[.agg #[.int .i64 (wrap64 ((wrap64 (a0_0 + (wrap64 (2 * (wrap64 ((wrap64 (a0_2 * a1)) + (wrap64 (a0_3 * a2)))))))) + (wrap64 (a0_1 * (wrap64 ((wrap64 (a1 * a1)) + (wrap64 (a2 * a2)))))))), .int .i64 a0_1, .int .i64 (wrap64 (a0_2 + (wrap64 (a0_1 * a1)))), .int .i64 (wrap64 (a0_3 + (wrap64 (a0_1 * a2))))]] ?_; (with_reducible refine (impl_drawn.calls (wrap64 ((wrap64 (a0_0 + (wrap64 (2 * (wrap64 ((wrap64 (a0_2 * a1)) + (wrap64 (a0_3 * a2)))))))) + (wrap64 (a0_1 * (wrap64 ((wrap64 (a1 * a1)) + (wrap64 (a2 * a2)))))))) a0_1 (wrap64 (a0_2 + (wrap64 (a0_1 * a1)))) (wrap64 (a0_3 + (wrap64 (a0_1 * a2)))) t338 t339 t340 t341 t342 _ A10.out).mono ?_); rintro e w17 ⟨rfl, hb⟩; refine ⟨_, rfl, ?_⟩; replace BK333 := bk_ BK333 hb; replace BK334 := bk_ BK334 hb; replace HB := Aside0.mk (below_step Z97 hb); clear hb; obtain ⟨_, _, _, _, _, _, _, _⟩ := cz4_ BK334))
    refine bodyPost_ret (results_ct rfl _ _ gb334 25 #[.int .i64 t338, .int .i64 t339, .int .i64 t340, .int .i64 t341] (0, 0) _ rfl (by (with_reducible repeat (first | refine blk_drewN ?_ _ | refine blk_drew ?_ | refine blk_alloc ?_ _)); refine blk_put (cs := #[.int .i64 t338, .int .i64 t339, .int .i64 t340, .int .i64 0]) ?_ 3 _ rfl; (with_reducible repeat (first | refine blk_drewN ?_ _ | refine blk_drew ?_ | refine blk_alloc ?_ _)); refine blk_put (cs := #[.int .i64 t338, .int .i64 t339, .int .i64 0, .int .i64 0]) ?_ 2 _ rfl; (with_reducible repeat (first | refine blk_drewN ?_ _ | refine blk_drew ?_ | refine blk_alloc ?_ _)); refine blk_put (cs := #[.int .i64 t338, .int .i64 0, .int .i64 0, .int .i64 0]) ?_ 1 _ rfl; (with_reducible repeat (first | refine blk_drewN ?_ _ | refine blk_drew ?_ | refine blk_alloc ?_ _)); refine blk_put (cs := #[.int .i64 0, .int .i64 0, .int .i64 0, .int .i64 0]) ?_ 0 _ rfl; (with_reducible repeat (first | refine blk_drewN ?_ _ | refine blk_drew ?_ | refine blk_alloc ?_ _)); exact BK334.out) Try.underlying25 rfl Z59) rfl ?_
    exact ⟨Z106, Z97⟩
   ·
    replace c9 := Bool.eq_false_iff.mpr c9
    subst c9
    have H1 : (some (0, 0, 0, 0, false)) = some (r1, r2, r3, r4, r5) := by rw [if_neg (show ¬ (false = true) by decide)] at H; exact H
    clear H
    have H := H1
    clear H1
    simp only [Option.some.injEq, Prod.mk.injEq] at H
    obtain ⟨rfl, rfl, rfl, rfl, rfl⟩ := H
    go_enter Try.func13, Try.ntmps13
    go_wp2_with (first | ((with_reducible refine gate_dst (N := 3) rfl ?_); refine boxN_ 3 #[.int .i64 a0_0, .int .i64 a0_1, .int .i64 a0_2, .int .i64 a0_3] 25 ?_; intro gb333 hg w19 hbox hb; have BK333 := Aside0.mk hbox; have GW333 := gw_ (w := w) Z111 hg; have GE333 := gw_ (w := w) Z111 hg; replace HB := Aside0.mk (below_step Z111 hb); clear hb hbox hg) | ((with_reducible refine gate_dst (N := 6) rfl ?_); refine boxN_ 6 #[.int .i64 0, .int .i64 0, .int .i64 0, .int .i64 0] 25 ?_; intro gb334 hg w20 hbox hb; have BK334 := Aside0.mk hbox; have GW334 := gw_ (w := w) Z87 hg; have GE334 := gw_ (w := w) Z87 hg; replace HB := Aside0.mk (below_step Z87 hb); have NB333_334 := nl_ BK333 hg; have NB334_333 := ng_ BK333 hg; replace BK333 := bk_ BK333 hb; clear hb hbox hg; have hnb21 := NB333_334.out; have hnc21 := NB334_333.out; obtain ⟨_, _, _, _, _, _, _, _⟩ := cz4_ BK333) | ((with_reducible refine gate_callee (f := 15) rfl ?_); refine goesN_ 15 (some 9) Try.func15 #[.agg #[.int .i64 a0_0, .int .i64 a0_1, .int .i64 a0_2, .int .i64 a0_3]] ?_; (with_reducible refine (impl_IsCircle.calls a0_0 a0_1 a0_2 a0_3 true _ A4.out).mono ?_); rintro e w23 ⟨rfl, hb⟩; refine ⟨_, rfl, ?_⟩; replace BK333 := bk_ BK333 hb; replace BK334 := bk_ BK334 hb; replace HB := Aside0.mk (below_step Z97 hb); clear hb) | (go_at_call 28; (with_reducible refine (impl_within.calls a1 (-1000) 1000 true _ A6.out).mono ?_); rintro e w' ⟨rfl, ⟨nd, rfl⟩⟩; (try (rw [drewN_self w23]; generalize hq_ : World.drewN w23 _ = w23; replace BK333 := bq_ BK333 hq_; replace BK334 := bq_ BK334 hq_; replace HB : Aside0 (Below w.heap.size w w23) := ⟨(by rw [← hq_]; exact Z97)⟩; clear hq_))) | (go_at_call 28; (with_reducible refine (impl_within.calls a2 (-1000) 1000 false _ A8.out).mono ?_); rintro e w' ⟨rfl, ⟨nd, rfl⟩⟩; (try (rw [drewN_self w23]; generalize hq_ : World.drewN w23 _ = w23; replace BK333 := bq_ BK333 hq_; replace BK334 := bq_ BK334 hq_; replace HB : Aside0 (Below w.heap.size w w23) := ⟨(by rw [← hq_]; exact Z97)⟩; clear hq_)); obtain ⟨_, _, _, _, _, _, _, _⟩ := cz4_ BK334))
    refine bodyPost_ret (results_ct rfl _ _ gb334 25 #[.int .i64 0, .int .i64 0, .int .i64 0, .int .i64 0] (0, 0) _ rfl Z71 Try.underlying25 rfl Z59) rfl ?_
    exact ⟨Z106, Z97⟩
  ·
   replace c7 := Bool.eq_false_iff.mpr c7
   subst c7
   have H1 : (some (0, 0, 0, 0, false)) = some (r1, r2, r3, r4, r5) := by rw [if_neg (show ¬ (false = true) by decide)] at H; exact H
   clear H
   have H := H1
   clear H1
   simp only [Option.some.injEq, Prod.mk.injEq] at H
   obtain ⟨rfl, rfl, rfl, rfl, rfl⟩ := H
   go_enter Try.func13, Try.ntmps13
   go_wp2_with (first | ((with_reducible refine gate_dst (N := 3) rfl ?_); refine boxN_ 3 #[.int .i64 a0_0, .int .i64 a0_1, .int .i64 a0_2, .int .i64 a0_3] 25 ?_; intro gb333 hg w25 hbox hb; have BK333 := Aside0.mk hbox; have GW333 := gw_ (w := w) Z111 hg; have GE333 := gw_ (w := w) Z111 hg; replace HB := Aside0.mk (below_step Z111 hb); clear hb hbox hg) | ((with_reducible refine gate_dst (N := 6) rfl ?_); refine boxN_ 6 #[.int .i64 0, .int .i64 0, .int .i64 0, .int .i64 0] 25 ?_; intro gb334 hg w26 hbox hb; have BK334 := Aside0.mk hbox; have GW334 := gw_ (w := w) Z87 hg; have GE334 := gw_ (w := w) Z87 hg; replace HB := Aside0.mk (below_step Z87 hb); have NB333_334 := nl_ BK333 hg; have NB334_333 := ng_ BK333 hg; replace BK333 := bk_ BK333 hb; clear hb hbox hg; have hnb27 := NB333_334.out; have hnc27 := NB334_333.out; obtain ⟨_, _, _, _, _, _, _, _⟩ := cz4_ BK333) | ((with_reducible refine gate_callee (f := 15) rfl ?_); refine goesN_ 15 (some 9) Try.func15 #[.agg #[.int .i64 a0_0, .int .i64 a0_1, .int .i64 a0_2, .int .i64 a0_3]] ?_; (with_reducible refine (impl_IsCircle.calls a0_0 a0_1 a0_2 a0_3 true _ A4.out).mono ?_); rintro e w29 ⟨rfl, hb⟩; refine ⟨_, rfl, ?_⟩; replace BK333 := bk_ BK333 hb; replace BK334 := bk_ BK334 hb; replace HB := Aside0.mk (below_step Z97 hb); clear hb) | (go_at_call 28; (with_reducible refine (impl_within.calls a1 (-1000) 1000 false _ A6.out).mono ?_); rintro e w' ⟨rfl, ⟨nd, rfl⟩⟩; (try (rw [drewN_self w29]; generalize hq_ : World.drewN w29 _ = w29; replace BK333 := bq_ BK333 hq_; replace BK334 := bq_ BK334 hq_; replace HB : Aside0 (Below w.heap.size w w29) := ⟨(by rw [← hq_]; exact Z97)⟩; clear hq_)); obtain ⟨_, _, _, _, _, _, _, _⟩ := cz4_ BK334))
   refine bodyPost_ret (results_ct rfl _ _ gb334 25 #[.int .i64 0, .int .i64 0, .int .i64 0, .int .i64 0] (0, 0) _ rfl Z71 Try.underlying25 rfl Z59) rfl ?_
   exact ⟨Z106, Z97⟩
 ·
  replace c5 := Bool.eq_false_iff.mpr c5
  subst c5
  have H1 : (some (0, 0, 0, 0, false)) = some (r1, r2, r3, r4, r5) := by rw [if_neg (show ¬ (false = true) by decide)] at H; exact H
  clear H
  have H := H1
  clear H1
  simp only [Option.some.injEq, Prod.mk.injEq] at H
  obtain ⟨rfl, rfl, rfl, rfl, rfl⟩ := H
  go_enter Try.func13, Try.ntmps13
  go_wp2_with (first | ((with_reducible refine gate_dst (N := 3) rfl ?_); refine boxN_ 3 #[.int .i64 a0_0, .int .i64 a0_1, .int .i64 a0_2, .int .i64 a0_3] 25 ?_; intro gb333 hg w31 hbox hb; have BK333 := Aside0.mk hbox; have GW333 := gw_ (w := w) Z111 hg; have GE333 := gw_ (w := w) Z111 hg; replace HB := Aside0.mk (below_step Z111 hb); clear hb hbox hg) | ((with_reducible refine gate_dst (N := 6) rfl ?_); refine boxN_ 6 #[.int .i64 0, .int .i64 0, .int .i64 0, .int .i64 0] 25 ?_; intro gb334 hg w32 hbox hb; have BK334 := Aside0.mk hbox; have GW334 := gw_ (w := w) Z87 hg; have GE334 := gw_ (w := w) Z87 hg; replace HB := Aside0.mk (below_step Z87 hb); have NB333_334 := nl_ BK333 hg; have NB334_333 := ng_ BK333 hg; replace BK333 := bk_ BK333 hb; clear hb hbox hg; have hnb33 := NB333_334.out; have hnc33 := NB334_333.out; obtain ⟨_, _, _, _, _, _, _, _⟩ := cz4_ BK333) | ((with_reducible refine gate_callee (f := 15) rfl ?_); refine goesN_ 15 (some 9) Try.func15 #[.agg #[.int .i64 a0_0, .int .i64 a0_1, .int .i64 a0_2, .int .i64 a0_3]] ?_; (with_reducible refine (impl_IsCircle.calls a0_0 a0_1 a0_2 a0_3 false _ A4.out).mono ?_); rintro e w35 ⟨rfl, hb⟩; refine ⟨_, rfl, ?_⟩; replace BK333 := bk_ BK333 hb; replace BK334 := bk_ BK334 hb; replace HB := Aside0.mk (below_step Z97 hb); clear hb; obtain ⟨_, _, _, _, _, _, _, _⟩ := cz4_ BK334))
  refine bodyPost_ret (results_ct rfl _ _ gb334 25 #[.int .i64 0, .int .i64 0, .int .i64 0, .int .i64 0] (0, 0) _ rfl Z71 Try.underlying25 rfl Z59) rfl ?_
  exact ⟨Z106, Z97⟩

/-! ### spec_DrawReflectCircle: function 16 -/
def spec_DrawReflectCircle.f (k : Nat) (l0 : List Int) : Option (Int × Int × Int × Int × Int × Int × Int × Int) := (spec_DrawTwiceProduct.f k l0).bind fun bt345 => (some (bt345.1, bt345.2.1, bt345.2.2.1, bt345.2.2.2.1, bt345.2.2.2.2.1, bt345.2.2.2.2.2.1, bt345.2.2.2.2.2.2.1, bt345.2.2.2.2.2.2.2))
theorem spec_DrawReflectCircle.mono : ∀ a0 k, LeO (spec_DrawReflectCircle.f k a0) (spec_DrawReflectCircle.f (k + 1) a0) := by
  intro a0 k
  unfold spec_DrawReflectCircle.f
  repeat' first
      | (with_reducible exact spec_DrawTwiceProduct.mono _ _)
      | (with_reducible exact LeO.refl _)
      | (with_reducible exact LeO.none _)
      | (with_reducible refine LeO.ite ?_ ?_)
      | (with_reducible refine LeO.bind ?_ (fun _ => ?_))
      | exact spec_DrawTwiceProduct.mono _ _
      | exact LeO.none _
      | refine LeO.ite ?_ ?_
      | refine LeO.bind ?_ (fun _ => ?_)
set_option maxHeartbeats 8000000 in
set_option maxRecDepth 100000 in
theorem spec_DrawReflectCircle.calls (k : Nat) (A0 : Option Addr) (c0 : Nat) (l0 : List Int) (r1 : Int) (r2 : Int) (r3 : Int) (r4 : Int) (r5 : Int) (r6 : Int) (r7 : Int) (r8 : Int) (w : World) (hr0 : Kd.C (Kd.int .u8) w A0 l0.length l0) (hc0 : l0.length ≤ c0) (h : spec_DrawReflectCircle.f k l0 = some (r1, r2, r3, r4, r5, r6, r7, r8)) :
  Calls Try.prog 16 #[.slice A0 l0.length c0] w fun e w' => e = .returned (.tuple #[.agg #[.int .i64 r1, .int .i64 r2, .int .i64 r3, .int .i64 r4], .agg #[.int .i64 r5, .int .i64 r6, .int .i64 r7, .int .i64 r8]]) ∧ Below w.heap.size w w' := by
 have hu25 := Try.underlying25
 have HR0 := Aside0.mk hr0
 have HC0 := Aside0.mk hc0
 clear hr0 hc0
 have HB := Aside0.mk (Below.refl w.heap.size w)
 have H : ((spec_DrawTwiceProduct.f k l0).bind fun bt345 => (some (bt345.1, bt345.2.1, bt345.2.2.1, bt345.2.2.2.1, bt345.2.2.2.2.1, bt345.2.2.2.2.2.1, bt345.2.2.2.2.2.2.1, bt345.2.2.2.2.2.2.2))) = some (r1, r2, r3, r4, r5, r6, r7, r8) := h
 clear h
 replace H := Option.bind_eq_some_iff.mp H
 obtain ⟨⟨t345, t346, t347, t348, t349, t350, t351, t352⟩, A20, H⟩ := H
 replace H : (some (t345, t346, t347, t348, t349, t350, t351, t352)) = some (r1, r2, r3, r4, r5, r6, r7, r8) := H
 have A2 := Aside0.mk A20
 clear A20
 simp only [Option.some.injEq, Prod.mk.injEq] at H
 obtain ⟨rfl, rfl, rfl, rfl, rfl, rfl, rfl, rfl⟩ := H
 go_enter Try.func16, Try.ntmps16
 go_wp2_with (first | ((with_reducible refine gate_dst (N := 2) rfl ?_); refine boxN_ 2 #[.int .i64 0, .int .i64 0, .int .i64 0, .int .i64 0] 25 ?_; intro gb343 hg w3 hbox hb; have BK343 := Aside0.mk hbox; have GW343 := gw_ (w := w) Z111 hg; have GE343 := gw_ (w := w) Z111 hg; replace HB := Aside0.mk (below_step Z111 hb); clear hb hbox hg) | ((with_reducible refine gate_dst (N := 3) rfl ?_); refine boxN_ 3 #[.int .i64 0, .int .i64 0, .int .i64 0, .int .i64 0] 25 ?_; intro gb344 hg w4 hbox hb; have BK344 := Aside0.mk hbox; have GW344 := gw_ (w := w) Z12 hg; have GE344 := gw_ (w := w) Z12 hg; replace HB := Aside0.mk (below_step Z12 hb); have NB343_344 := nl_ BK343 hg; have NB344_343 := ng_ BK343 hg; replace BK343 := bk_ BK343 hb; clear hb hbox hg) | ((with_reducible refine gate_callee (f := 5) rfl ?_); refine goesN_ 5 (some 5) Try.func5 #[.slice A0 l0.length c0] ?_; (with_reducible refine (spec_DrawTwiceProduct.calls k _ _ l0 t345 t346 t347 t348 t349 t350 t351 t352 _ ?side1 ?side2 A2.out).mono ?_); (case side1 => repeat (first | exact (Kd.C_below HR0.out HB.out) | (with_reducible refine Kd.C_alloc ?_ _) | (with_reducible refine Kd.C_drewN ?_ _) | (with_reducible refine Kd.C_drew ?_))); (case side2 => exact HC0.out); rintro e w5 ⟨rfl, hb⟩; refine ⟨_, rfl, ?_⟩; replace BK343 := bk_ BK343 hb; replace BK344 := bk_ BK344 hb; replace HB := Aside0.mk (below_step (by repeat (first | (with_reducible first | exact HB.out | apply below_alloc | apply pw_below_drewN | apply below_drew1 | refine below_set ?_ GE343.out | refine below_set ?_ GE344.out) | exact HB.out)) hb); clear hb; have hnb6 := NB343_344.out; have hnc6 := NB344_343.out; obtain ⟨_, _, _, _, _, _, _, _⟩ := cz4_ BK343; obtain ⟨_, _, _, _, _, _, _, _⟩ := cz4_ BK344))
 refine bodyPost_ret (results_cc rfl _ _ gb343 gb344 25 25 #[.int .i64 t345, .int .i64 t346, .int .i64 t347, .int .i64 t348] #[.int .i64 t349, .int .i64 t350, .int .i64 t351, .int .i64 t352] (0, 0) (0, 0) _ _ rfl (by (with_reducible repeat (first | refine blk_drewN ?_ _ | refine blk_drew ?_ | refine blk_alloc ?_ _)); refine blk_far ?_ NB343_344.out _; (with_reducible repeat (first | refine blk_drewN ?_ _ | refine blk_drew ?_ | refine blk_alloc ?_ _)); refine blk_far ?_ NB343_344.out _; (with_reducible repeat (first | refine blk_drewN ?_ _ | refine blk_drew ?_ | refine blk_alloc ?_ _)); refine blk_far ?_ NB343_344.out _; (with_reducible repeat (first | refine blk_drewN ?_ _ | refine blk_drew ?_ | refine blk_alloc ?_ _)); refine blk_far ?_ NB343_344.out _; (with_reducible repeat (first | refine blk_drewN ?_ _ | refine blk_drew ?_ | refine blk_alloc ?_ _)); refine blk_put (cs := #[.int .i64 t345, .int .i64 t346, .int .i64 t347, .int .i64 0]) ?_ 3 _ rfl; (with_reducible repeat (first | refine blk_drewN ?_ _ | refine blk_drew ?_ | refine blk_alloc ?_ _)); refine blk_put (cs := #[.int .i64 t345, .int .i64 t346, .int .i64 0, .int .i64 0]) ?_ 2 _ rfl; (with_reducible repeat (first | refine blk_drewN ?_ _ | refine blk_drew ?_ | refine blk_alloc ?_ _)); refine blk_put (cs := #[.int .i64 t345, .int .i64 0, .int .i64 0, .int .i64 0]) ?_ 1 _ rfl; (with_reducible repeat (first | refine blk_drewN ?_ _ | refine blk_drew ?_ | refine blk_alloc ?_ _)); refine blk_put (cs := #[.int .i64 0, .int .i64 0, .int .i64 0, .int .i64 0]) ?_ 0 _ rfl; (with_reducible repeat (first | refine blk_drewN ?_ _ | refine blk_drew ?_ | refine blk_alloc ?_ _)); exact BK343.out) Try.underlying25 rfl Z59 rfl (by (with_reducible repeat (first | refine blk_drewN ?_ _ | refine blk_drew ?_ | refine blk_alloc ?_ _)); refine blk_put (cs := #[.int .i64 t349, .int .i64 t350, .int .i64 t351, .int .i64 0]) ?_ 3 _ rfl; (with_reducible repeat (first | refine blk_drewN ?_ _ | refine blk_drew ?_ | refine blk_alloc ?_ _)); refine blk_put (cs := #[.int .i64 t349, .int .i64 t350, .int .i64 0, .int .i64 0]) ?_ 2 _ rfl; (with_reducible repeat (first | refine blk_drewN ?_ _ | refine blk_drew ?_ | refine blk_alloc ?_ _)); refine blk_put (cs := #[.int .i64 t349, .int .i64 0, .int .i64 0, .int .i64 0]) ?_ 1 _ rfl; (with_reducible repeat (first | refine blk_drewN ?_ _ | refine blk_drew ?_ | refine blk_alloc ?_ _)); refine blk_put (cs := #[.int .i64 0, .int .i64 0, .int .i64 0, .int .i64 0]) ?_ 0 _ rfl; (with_reducible repeat (first | refine blk_drewN ?_ _ | refine blk_drew ?_ | refine blk_alloc ?_ _)); refine blk_far ?_ NB344_343.out _; (with_reducible repeat (first | refine blk_drewN ?_ _ | refine blk_drew ?_ | refine blk_alloc ?_ _)); refine blk_far ?_ NB344_343.out _; (with_reducible repeat (first | refine blk_drewN ?_ _ | refine blk_drew ?_ | refine blk_alloc ?_ _)); refine blk_far ?_ NB344_343.out _; (with_reducible repeat (first | refine blk_drewN ?_ _ | refine blk_drew ?_ | refine blk_alloc ?_ _)); refine blk_far ?_ NB344_343.out _; (with_reducible repeat (first | refine blk_drewN ?_ _ | refine blk_drew ?_ | refine blk_alloc ?_ _)); exact BK344.out) Try.underlying25 rfl Z59) rfl ?_
 exact ⟨Z106, (by repeat (first | (with_reducible first | exact HB.out | apply below_alloc | apply pw_below_drewN | apply below_drew1 | refine below_set ?_ GE343.out | refine below_set ?_ GE344.out) | exact HB.out))⟩

end Go.Proofs.Ytkllcinoodfffaa.P
