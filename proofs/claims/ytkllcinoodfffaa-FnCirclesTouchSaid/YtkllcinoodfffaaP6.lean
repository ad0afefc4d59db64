/- Written by a program of this session: for Go functions that a statement reaches, Lean functions with the same answers and the proofs that the calls come to them; conditions: none but the arguments' kinds. -/
import Derived.Test.YtkllcinoodfffaaP0
import Derived.Test.YtkllcinoodfffaaP2
import Derived.Test.YtkllcinoodfffaaP4
import Derived.Test.YtkllcinoodfffaaP5
namespace Go.Proofs.Ytkllcinoodfffaa.P
open Go.RowKit Go.Proofs.YtkllcinoodfffaaW.PrintWords Go.Proofs.YtkllcinoodfffaaW.PrintLast Go.Proofs.YtkllcinoodfffaaW.PrintMore
attribute [local go_sem] max2_int min2_int max_two min_two max_three min_three max_four min_four   -- for this text's walks alone
set_option linter.unusedVariables false
set_option linter.unusedSimpArgs false

/-! ### spec_DrawTwiceProduct: function 5 -/
def spec_DrawTwiceProduct.j0 : Nat → List (S25) → Bool → List Int → Int → Int → Option (Int × Int × Int × Int × Int × Int × Int × Int)
  | 0, _, _, _, _, _ => none
  | k + 1, x5, x17, x237000, x237001, x237002 => if x17 = true then (if 0 < (x5.length : Int) then ((spec_l1Cur_pick.f x237000 x237001 x237002 (x5.length : Int)).bind fun bt246 => (if 0 ≤ bt246.1 then (if bt246.1 < (x5.length : Int) then (some ((rd_T25 x5 0).f0, (rd_T25 x5 0).f1, (rd_T25 x5 0).f2, (rd_T25 x5 0).f3, (rd_T25 x5 bt246.1).f0, (rd_T25 x5 bt246.1).f1, (rd_T25 x5 bt246.1).f2, (rd_T25 x5 bt246.1).f3)) else (none)) else (none))) else (none)) else ((spec_l1Cur_circle.f k x237000 x237001 x237002).bind fun bt250 => ((spec_l1Cur_circle.f k x237000 bt250.2.2.2.2.1 bt250.2.2.2.2.2).bind fun bt256 => (some (bt250.1, bt250.2.1, bt250.2.2.1, bt250.2.2.2.1, bt256.1, bt256.2.1, bt256.2.2.1, bt256.2.2.2.1))))
def spec_DrawTwiceProduct.f (k : Nat) (l0 : List Int) : Option (Int × Int × Int × Int × Int × Int × Int × Int) := (spec_l1Cur_config.f k l0 0 0).bind fun bt237 => (if (bt237.1.length : Int) > 1 then ((spec_l1Cur_one.f l0 bt237.2.1 bt237.2.2 2).bind fun bt242 => (spec_DrawTwiceProduct.j0 k bt237.1 bt242.1 l0 bt242.2.1 bt242.2.2)) else (spec_DrawTwiceProduct.j0 k bt237.1 false l0 bt237.2.1 bt237.2.2))
theorem spec_DrawTwiceProduct.mono_l : ∀ k, (∀ y0 y1 y2 y3 y4, LeO (spec_DrawTwiceProduct.j0 k y0 y1 y2 y3 y4) (spec_DrawTwiceProduct.j0 (k + 1) y0 y1 y2 y3 y4))
  | 0 => fun _ _ _ _ _ r h => by simp [spec_DrawTwiceProduct.j0] at h
  | k + 1 => by
    have ih0 := spec_DrawTwiceProduct.mono_l k
    · intro y0 y1 y2 y3 y4
      unfold spec_DrawTwiceProduct.j0
      repeat' first
      | (with_reducible exact ih0 _ _ _ _ _)
      | (with_reducible exact spec_l1Cur_circle.mono _ _ _ _)
      | (with_reducible exact spec_l1Cur_config.mono _ _ _ _)
      | (with_reducible exact LeO.refl _)
      | (with_reducible exact LeO.none _)
      | (with_reducible refine LeO.ite ?_ ?_)
      | (with_reducible refine LeO.bind ?_ (fun _ => ?_))
      | exact ih0 _ _ _ _ _
      | exact spec_l1Cur_circle.mono _ _ _ _
      | exact spec_l1Cur_config.mono _ _ _ _
      | exact LeO.none _
      | refine LeO.ite ?_ ?_
      | refine LeO.bind ?_ (fun _ => ?_)
theorem spec_DrawTwiceProduct.mono : ∀ a0 k, LeO (spec_DrawTwiceProduct.f k a0) (spec_DrawTwiceProduct.f (k + 1) a0) := by
  intro a0 k
  have ih0 := spec_DrawTwiceProduct.mono_l k
  unfold spec_DrawTwiceProduct.f
  repeat' first
      | (with_reducible exact ih0 _ _ _ _ _)
      | (with_reducible exact spec_l1Cur_circle.mono _ _ _ _)
      | (with_reducible exact spec_l1Cur_config.mono _ _ _ _)
      | (with_reducible exact LeO.refl _)
      | (with_reducible exact LeO.none _)
      | (with_reducible refine LeO.ite ?_ ?_)
      | (with_reducible refine LeO.bind ?_ (fun _ => ?_))
      | exact ih0 _ _ _ _ _
      | exact spec_l1Cur_circle.mono _ _ _ _
      | exact spec_l1Cur_config.mono _ _ _ _
      | exact LeO.none _
      | refine LeO.ite ?_ ?_
      | refine LeO.bind ?_ (fun _ => ?_)
def spec_DrawTwiceProduct.T4 : Bool × List (List Nat × List Nat) := (true, [([], []), ([0], [0]), ([1], [1]), ([], []), ([], []), ([], []), ([5], [5]), ([4, 6], [4, 6]), ([3, 7], [3, 7]), ([8], [8]), ([2, 7, 0, 1, 2], [2]), ([9, 10, 0, 1, 2, 3, 4, 5, 6, 7, 8, 9, 10], [9])])
def spec_DrawTwiceProduct.B4 : List Nat := [0, 1, 3, 0, 0, 0, 32, 112, 248, 504, 247, 2047]
theorem spec_DrawTwiceProduct.tab4 : rtab .any (opsOf Try.f5 4) = spec_DrawTwiceProduct.T4 := by kernel_rfl
theorem spec_DrawTwiceProduct.bits4 : waitsOk spec_DrawTwiceProduct.T4.2 spec_DrawTwiceProduct.B4 = true := by kernel_rfl
set_option maxHeartbeats 8000000 in
set_option maxRecDepth 100000 in
theorem spec_DrawTwiceProduct.calls (k : Nat) (A0 : Option Addr) (c0 : Nat) (l0 : List Int) (r1 : Int) (r2 : Int) (r3 : Int) (r4 : Int) (r5 : Int) (r6 : Int) (r7 : Int) (r8 : Int) (w : World) (hr0 : Kd.C (Kd.int .u8) w A0 l0.length l0) (hc0 : l0.length ≤ c0) (h : spec_DrawTwiceProduct.f k l0 = some (r1, r2, r3, r4, r5, r6, r7, r8)) :
  Calls Try.prog 5 #[.slice A0 l0.length c0] w fun e w' => e = .returned (.tuple #[.agg #[.int .i64 r1, .int .i64 r2, .int .i64 r3, .int .i64 r4], .agg #[.int .i64 r5, .int .i64 r6, .int .i64 r7, .int .i64 r8]]) ∧ Below w.heap.size w w' := by
 have hu25 := Try.underlying25
 have hu42 := Try.underlying42
 have HR0 := Aside0.mk hr0
 have HC0 := Aside0.mk hc0
 clear hr0 hc0
 have HB := Aside0.mk (Below.refl w.heap.size w)
 have H : ((spec_l1Cur_config.f k l0 0 0).bind fun bt237 => (if (bt237.1.length : Int) > 1 then ((spec_l1Cur_one.f l0 bt237.2.1 bt237.2.2 2).bind fun bt242 => (spec_DrawTwiceProduct.j0 k bt237.1 bt242.1 l0 bt242.2.1 bt242.2.2)) else (spec_DrawTwiceProduct.j0 k bt237.1 false l0 bt237.2.1 bt237.2.2))) = some (r1, r2, r3, r4, r5, r6, r7, r8) := h
 clear h
 replace H := Option.bind_eq_some_iff.mp H
 obtain ⟨⟨t237, t240, t241⟩, A20, H⟩ := H
 replace H : (if (t237.length : Int) > 1 then ((spec_l1Cur_one.f l0 t240 t241 2).bind fun bt242 => (spec_DrawTwiceProduct.j0 k t237 bt242.1 l0 bt242.2.1 bt242.2.2)) else (spec_DrawTwiceProduct.j0 k t237 false l0 t240 t241)) = some (r1, r2, r3, r4, r5, r6, r7, r8) := H
 have A2 := Aside0.mk A20
 clear A20
 have HC3 := Aside0.mk H
 clear H
 go_enter Try.func5, Try.ntmps5
 go_upto_region 3 with (first | ((with_reducible refine gate_dst (N := 2) rfl ?_); refine boxN_ 2 #[.int .i64 0, .int .i64 0, .int .i64 0, .int .i64 0] 25 ?_; intro gb234 hg w4 hbox hb; have BK234 := Aside0.mk hbox; have GW234 := gw_ (w := w) Z111 hg; have GE234 := gw_ (w := w) Z111 hg; replace HB := Aside0.mk (below_step Z111 hb); clear hb hbox hg) | ((with_reducible refine gate_dst (N := 3) rfl ?_); refine boxN_ 3 #[.int .i64 0, .int .i64 0, .int .i64 0, .int .i64 0] 25 ?_; intro gb235 hg w5 hbox hb; have BK235 := Aside0.mk hbox; have GW235 := gw_ (w := w) Z8 hg; have GE235 := gw_ (w := w) Z8 hg; replace HB := Aside0.mk (below_step Z8 hb); have NB234_235 := nl_ BK234 hg; have NB235_234 := ng_ BK234 hg; replace BK234 := bk_ BK234 hb; clear hb hbox hg) | ((with_reducible refine gate_dst (N := 8) rfl ?_); refine boxN_ 8 #[.slice A0 l0.length c0, .int .i64 0, .int .u64 0] 42 ?_; intro gb236 hg w6 hbox hb; have NB234_236 := nl_ BK234 hg; have NB236_234 := ng_ BK234 hg; replace BK234 := bk_ BK234 hb; have NB235_236 := nl_ BK235 hg; have NB236_235 := ng_ BK235 hg; replace BK235 := bk_ BK235 hb; have HI236 := Aside0.mk ((show IsS42 w _ gb236 l0 0 0 from ⟨_, _, hbox, (by rw [hg]; exact (below_size (by repeat (first | (with_reducible first | exact HB.out | apply below_alloc | apply pw_below_drewN | apply below_drew1 | refine below_set ?_ GE234.out | refine below_set ?_ GE235.out) | exact HB.out))) : w.heap.size ≤ gb236), HR0.out⟩)); replace HB := Aside0.mk (below_step (by repeat (first | (with_reducible first | exact HB.out | apply below_alloc | apply pw_below_drewN | apply below_drew1 | refine below_set ?_ GE234.out | refine below_set ?_ GE235.out) | exact HB.out)) hb); clear hb hbox hg) | ((with_reducible refine gate_callee (f := 19) rfl ?_); refine goesN_ 19 (some 10) Try.func19 #[.pointer (some ⟨gb236, 0, none⟩)] ?_; (with_reducible refine (spec_l1Cur_config.calls k gb236 l0 0 0 t237 t240 t241 w _ ?side1 ?side2 A2.out).mono ?_); (case side1 => repeat (first | (with_reducible first | exact HI236.out | apply IsS42.alloc | apply IsS42.drewN | apply IsS42.drew | apply IsS42.set_1 | apply IsS42.set_2 | refine IsS42.far ?_ NB236_234.out _ | refine IsS42.far ?_ NB236_235.out _) | exact HI236.out)); (case side2 => repeat (first | (with_reducible first | exact HB.out | apply below_alloc | apply pw_below_drewN | apply below_drew1 | refine below_set ?_ (IsS42.ge HI236.out) | refine below_set ?_ GE234.out | refine below_set ?_ GE235.out) | exact HB.out)); rintro e w7 ⟨v238, rfl, ho0, hi, hb, hk⟩; refine ⟨_, rfl, ?_⟩; have HO239 := Aside0.mk (Kd.R_lower (Kd.R_newB (Kd.R_newB ho0 (g := gb234) (o := .cells #[.int .i64 0, .int .i64 0, .int .i64 0, .int .i64 0] 25 (0, 0)) Z60) (g := gb235) (o := .cells #[.int .i64 0, .int .i64 0, .int .i64 0, .int .i64 0] 25 (0, 0)) Z61) (below_size Z63)); replace BK234 := Aside0.mk (KeepBut.blk hk (g' := gb234) (o := .cells #[.int .i64 0, .int .i64 0, .int .i64 0, .int .i64 0] 25 (0, 0)) Z60 NB234_236.out (by simp)); replace BK235 := Aside0.mk (KeepBut.blk hk (g' := gb235) (o := .cells #[.int .i64 0, .int .i64 0, .int .i64 0, .int .i64 0] 25 (0, 0)) Z61 NB235_236.out (by simp)); replace HB := Aside0.mk hb; replace HI236 := Aside0.mk hi; clear hb hk hi; (try clear ho0)))
 (try simp only [Act.put, List.setIfInBounds_toArray, List.set_cons_zero, List.set_cons_succ])
 go_cut [17] (fun v17 wc => ∃ (kq : Nat) (x17_2 : Bool) (x237001_2 : Int) (x237002_2 : Int), v17 = .bool x17_2 ∧ Aside0 (spec_DrawTwiceProduct.j0 kq t237 x17_2 l0 x237001_2 x237002_2 = some (r1, r2, r3, r4, r5, r6, r7, r8)) ∧ Aside0 (kq ≤ k) ∧ Aside0 (Kd.R k25 25 wc w.heap.size (fun k_ => k_ ≠ gb234 ∧ k_ ≠ gb235) v238 t237) ∧ Aside0 (wc.heap[gb234]? = some (.cells #[.int .i64 0, .int .i64 0, .int .i64 0, .int .i64 0] 25 (0, 0))) ∧ Aside0 (wc.heap[gb235]? = some (.cells #[.int .i64 0, .int .i64 0, .int .i64 0, .int .i64 0] 25 (0, 0))) ∧ Aside0 (IsS42 w wc gb236 l0 x237001_2 x237002_2) ∧ Aside0 (Below w.heap.size w wc))
 case first =>
  have H := HC3.out
  clear HC3
  by_cases c8 : (t237.length : Int) > 1
  ·
   rw [if_pos c8] at H
   have c8b0 : decide (1 < (t237.length : Int)) = true := decide_eq_true c8
   have c8b1 : decide (1 < t237.length) = true := decide_eq_true (by omega)
   clear c8
   (first | rw [c8b0] | (simp only [i64_w, i32_w]; rw [c8b0]) | rw [c8b1] | skip)
   replace H := Option.bind_eq_some_iff.mp H
   obtain ⟨⟨t242, t243, t244⟩, A90, H⟩ := H
   replace H : (spec_DrawTwiceProduct.j0 k t237 t242 l0 t243 t244) = some (r1, r2, r3, r4, r5, r6, r7, r8) := H
   have A9 := Aside0.mk A90
   clear A90
   have H' := Aside0.mk H
   clear H
   obtain ⟨Ao10, co10, eo10⟩ := Kd.R_slice HO239.out
   subst eo10
   go_wp2_with (first | (go_at_call 20; (with_reducible refine (spec_l1Cur_one.calls gb236 l0 t240 t241 2 t242 t243 t244 w _ ?side1 ?side2 A9.out).mono ?_); (case side1 => repeat (first | (with_reducible first | exact HI236.out | apply IsS42.alloc | apply IsS42.drewN | apply IsS42.drew | apply IsS42.set_1 | apply IsS42.set_2 | refine IsS42.far ?_ NB236_234.out _ | refine IsS42.far ?_ NB236_235.out _) | exact HI236.out)); (case side2 => repeat (first | (with_reducible first | exact HB.out | apply below_alloc | apply pw_below_drewN | apply below_drew1 | refine below_set ?_ (IsS42.ge HI236.out) | refine below_set ?_ GE234.out | refine below_set ?_ GE235.out) | exact HB.out)); rintro e w11 ⟨rfl, hi, hb, hk⟩; replace BK234 := Aside0.mk (KeepBut.blk hk (g' := gb234) (o := .cells #[.int .i64 0, .int .i64 0, .int .i64 0, .int .i64 0] 25 (0, 0)) Z60 NB234_236.out (by simp)); replace BK235 := Aside0.mk (KeepBut.blk hk (g' := gb235) (o := .cells #[.int .i64 0, .int .i64 0, .int .i64 0, .int .i64 0] 25 (0, 0)) Z61 NB235_236.out (by simp)); replace HO239 := Aside0.mk (Kd.R_mono (Kd.R_keep (IsS42.apart (show IsS42 w _ gb236 l0 t240 t241 from by repeat (first | (with_reducible first | exact HI236.out | apply IsS42.alloc | apply IsS42.drewN | apply IsS42.drew | apply IsS42.set_1 | apply IsS42.set_2 | refine IsS42.far ?_ NB236_234.out _ | refine IsS42.far ?_ NB236_235.out _) | exact HI236.out)) (by (with_reducible repeat (first | apply Kd.R_alloc | apply Kd.R_drewN | apply Kd.R_drew)); exact HO239.out) (by decide)) hk (fun _ h => h.2)) (fun _ h => h.1)); replace HB := Aside0.mk hb; replace HI236 := Aside0.mk hi; clear hb hk hi))
   go_meet
   case rel => exact ⟨_, (t242), (t243), (t244), Z91, H', ⟨Z27⟩, ⟨(by (with_reducible repeat (first | apply Kd.R_alloc | apply Kd.R_drewN | apply Kd.R_drew)); exact Kd.R_mono HO239.out (fun _ hk => ⟨hk.1.2, hk.2⟩))⟩, ⟨Z60⟩, ⟨Z61⟩, ⟨(by repeat (first | (with_reducible first | exact HI236.out | apply IsS42.alloc | apply IsS42.drewN | apply IsS42.drew | apply IsS42.set_1 | apply IsS42.set_2 | refine IsS42.far ?_ NB236_234.out _ | refine IsS42.far ?_ NB236_235.out _) | exact HI236.out))⟩, ⟨Z63⟩⟩
  ·
   rw [if_neg c8] at H
   have c8b0 : decide (1 < (t237.length : Int)) = false := decide_eq_false c8
   have c8b1 : decide (1 < t237.length) = false := decide_eq_false (by omega)
   clear c8
   (first | rw [c8b0] | (simp only [i64_w, i32_w]; rw [c8b0]) | rw [c8b1] | skip)
   have H' := Aside0.mk H
   clear H
   obtain ⟨Ao12, co12, eo12⟩ := Kd.R_slice HO239.out
   subst eo12
   go_wp2
   go_meet
   case rel => exact ⟨_, (false), (t240), (t241), Z91, H', ⟨Z27⟩, ⟨(by (with_reducible repeat (first | apply Kd.R_alloc | apply Kd.R_drewN | apply Kd.R_drew)); exact Kd.R_mono HO239.out (fun _ hk => ⟨hk.1.2, hk.2⟩))⟩, ⟨Z60⟩, ⟨Z61⟩, ⟨(by repeat (first | (with_reducible first | exact HI236.out | apply IsS42.alloc | apply IsS42.drewN | apply IsS42.drew | apply IsS42.set_1 | apply IsS42.set_2 | refine IsS42.far ?_ NB236_234.out _ | refine IsS42.far ?_ NB236_235.out _) | exact HI236.out))⟩, ⟨Z63⟩⟩
 case rest =>
  clear HC3
  try clear c1
  try clear p2
  try clear c5
  try clear c8
  try clear c8b0
  try clear c8b1
  obtain ⟨kq, x17_2, x237001_2, x237002_2, rfl, HA, HJ2, HO_5, BK234, BK235, HI236, HB⟩ := hcut
  cases kq with
  | zero => exact absurd HA.out (by simp [spec_DrawTwiceProduct.j0])
  | succ kj2 =>
   have H := HA.out
   clear HA
   simp only [spec_DrawTwiceProduct.j0] at H
   by_cases c13 : x17_2 = true
   ·
    subst c13
    have H1 : (if 0 < (t237.length : Int) then ((spec_l1Cur_pick.f l0 x237001_2 x237002_2 (t237.length : Int)).bind fun bt246 => (if 0 ≤ bt246.1 then (if bt246.1 < (t237.length : Int) then (some ((rd_T25 t237 0).f0, (rd_T25 t237 0).f1, (rd_T25 t237 0).f2, (rd_T25 t237 0).f3, (rd_T25 t237 bt246.1).f0, (rd_T25 t237 bt246.1).f1, (rd_T25 t237 bt246.1).f2, (rd_T25 t237 bt246.1).f3)) else (none)) else (none))) else (none)) = some (r1, r2, r3, r4, r5, r6, r7, r8) := by rw [if_pos rfl] at H; exact H
    clear H
    have H := H1
    clear H1
    by_cases c14 : 0 < (t237.length : Int)
    ·
     rw [if_pos c14] at H
     have c14b0 : decide (0 < (t237.length : Int)) = true := decide_eq_true c14
     have c14b1 : decide (0 < t237.length) = true := decide_eq_true (by omega)
     clear c14
     replace H := Option.bind_eq_some_iff.mp H
     obtain ⟨⟨t246, t247, t248⟩, A150, H⟩ := H
     replace H : (if 0 ≤ t246 then (if t246 < (t237.length : Int) then (some ((rd_T25 t237 0).f0, (rd_T25 t237 0).f1, (rd_T25 t237 0).f2, (rd_T25 t237 0).f3, (rd_T25 t237 t246).f0, (rd_T25 t237 t246).f1, (rd_T25 t237 t246).f2, (rd_T25 t237 t246).f3)) else (none)) else (none)) = some (r1, r2, r3, r4, r5, r6, r7, r8) := H
     have A15 := Aside0.mk A150
     clear A150
     by_cases c16 : 0 ≤ t246
     ·
      rw [if_pos c16] at H
      have c16b0 : decide (0 ≤ t246) = true := decide_eq_true c16
      clear c16
      by_cases c17 : t246 < (t237.length : Int)
      ·
       rw [if_pos c17] at H
       have c17b0 : decide (t246 < (t237.length : Int)) = true := decide_eq_true c17
       clear c17
       simp only [Option.some.injEq, Prod.mk.injEq] at H
       obtain ⟨rfl, rfl, rfl, rfl, rfl, rfl, rfl, rfl⟩ := H
       try go_wp2
       have n0_ := Aside0.mk (Kd.R_drew HO_5.out)
       have n1_ := Aside0.mk (blk_drew BK234.out)
       have n2_ := Aside0.mk (blk_drew BK235.out)
       have n3_ := Aside0.mk (IsS42.drew HI236.out)
       have n4_ := Aside0.mk (below_drew1 HB.out)
       clear HO_5
       clear BK234
       clear BK235
       clear HI236
       clear HB
       have HO_5 := n0_
       have BK234 := n1_
       have BK235 := n2_
       have HI236 := n3_
       have HB := n4_
       clear n0_ n1_ n2_ n3_ n4_
       obtain ⟨Ao19, co19, eo19⟩ := Kd.R_slice HO_5.out
       (first | subst eo19 | (injection eo19 with f1_ f2_ f3_; have f4_ := f1_.symm; have f5_ := f3_.symm; clear f1_ f2_ f3_; subst f4_; subst f5_))
       have p245 : 0 ≤ (0 : Int) := (by omega)
       have q245 : 0 < (t237.length : Int) := of_decide_eq_true Z90
       obtain ⟨ad245, e245, hx245_0, hx245_1, hx245_2, hx245_3⟩ := at_T25 (Kd.R_reads' HO_5.out).2.2 0 p245 q245
       cases e245
       have qi245 : (0 < t237.length) = True := eq_true (by omega)
       (try rw [show ((0 : Int)).toNat = 0 from rfl] at hx245_0)
       (try rw [show 0 * 4 = 0 from rfl] at hx245_0)
       (try rw [Addr.add_zero'] at hx245_0)
       (try rw [show ((0 : Int)).toNat = 0 from rfl] at hx245_1)
       (try rw [show 0 * 4 = 0 from rfl] at hx245_1)
       (try rw [Addr.add_zero'] at hx245_1)
       (try rw [show ((0 : Int)).toNat = 0 from rfl] at hx245_2)
       (try rw [show 0 * 4 = 0 from rfl] at hx245_2)
       (try rw [Addr.add_zero'] at hx245_2)
       (try rw [show ((0 : Int)).toNat = 0 from rfl] at hx245_3)
       (try rw [show 0 * 4 = 0 from rfl] at hx245_3)
       (try rw [Addr.add_zero'] at hx245_3)
       replace p245 := eq_true p245
       replace q245 := eq_true q245
       have p249 : 0 ≤ (t246 : Int) := of_decide_eq_true Z90
       have q249 : t246 < (t237.length : Int) := of_decide_eq_true Z90
       obtain ⟨ad249, e249, hx249_0, hx249_1, hx249_2, hx249_3⟩ := at_T25 (Kd.R_reads' HO_5.out).2.2 t246 p249 q249
       obtain rfl : ad245 = ad249 := (by injection e249)
       replace p249 := eq_true p249
       replace q249 := eq_true q249
       refine start_ (n := 12) (S := fun w' => w'.cell? ad245 = some (.int .i64 ((rd_T25 t237 0).f0)) ∧ w'.cell? ⟨ad245.block, ad245.off + 1, none⟩ = some (.int .i64 ((rd_T25 t237 0).f1)) ∧ w'.cell? ⟨ad245.block, ad245.off + 2, none⟩ = some (.int .i64 ((rd_T25 t237 0).f2)) ∧ w'.cell? ⟨ad245.block, ad245.off + 3, none⟩ = some (.int .i64 ((rd_T25 t237 0).f3)) ∧ w'.cell? (ad245.add ((t246).toNat * 4)) = some (.int .i64 ((rd_T25 t237 t246).f0)) ∧ w'.cell? ⟨(ad245.add ((t246).toNat * 4)).block, (ad245.add ((t246).toNat * 4)).off + 1, none⟩ = some (.int .i64 ((rd_T25 t237 t246).f1)) ∧ w'.cell? ⟨(ad245.add ((t246).toNat * 4)).block, (ad245.add ((t246).toNat * 4)).off + 2, none⟩ = some (.int .i64 ((rd_T25 t237 t246).f2)) ∧ w'.cell? ⟨(ad245.add ((t246).toNat * 4)).block, (ad245.add ((t246).toNat * 4)).off + 3, none⟩ = some (.int .i64 ((rd_T25 t237 t246).f3))) (ds := []) #[false, false, false, false, false, false, false, false, false, false, false, false] Z59 rfl rfl ⟨hx245_0, hx245_1, hx245_2, hx245_3, hx249_0, hx249_1, hx249_2, hx249_3⟩ (fun hHeld => ?_); refine with_tabW spec_DrawTwiceProduct.tab4 spec_DrawTwiceProduct.bits4 (fun HT_ HW_ => ?_)
       generalize wc.drew = w18 at HO_5 BK234 BK235 HI236 HB hx245_0 hx245_1 hx245_2 hx245_3 hx249_0 hx249_1 hx249_2 hx249_3 hHeld ⊢
       refine pure_ (i := 0) (N := some 18) (v := ?_) (a' := ?_) #[true, false, false, false, false, false, false, false, false, false, false, false] rfl rfl (any_of HT_.out Z59) (fun _ _ _ h => h) (Or.inl ⟨(by rfl), ?_⟩) ?_ ?_
       rotate_left
       ·
        intro w'
        go_simp
        with_reducible rfl
       rotate_left
       ·
        simp only [Act.put, List.setIfInBounds_toArray, List.set_cons_zero, List.set_cons_succ, i64_w, i32_w]
        rfl
       refine pure_ (i := 1) (N := some 19) (v := ?_) (a' := ?_) #[true, true, false, false, false, false, false, false, false, false, false, false] rfl rfl (any_of HT_.out Z59) (fun _ _ _ h => h) (Or.inl ⟨(by rfl), ?_⟩) ?_ ?_
       rotate_left
       ·
        intro w'
        go_simp
        with_reducible rfl
       rotate_left
       ·
        simp only [Act.put, List.setIfInBounds_toArray, List.set_cons_zero, List.set_cons_succ, i64_w, i32_w]
        rfl
       refine pure_ (i := 3) (N := some 21) (v := ?_) (a' := ?_) #[true, true, false, true, false, false, false, false, false, false, false, false] rfl rfl (any_of HT_.out Z59) (fun _ _ _ h => h) (Or.inl ⟨(by rfl), ?_⟩) ?_ ?_
       rotate_left
       ·
        intro w'
        go_simp
        with_reducible rfl
       rotate_left
       ·
        simp only [Act.put, List.setIfInBounds_toArray, List.set_cons_zero, List.set_cons_succ, i64_w, i32_w]
        rfl
       refine pure_ (i := 4) (N := some 22) (v := ?_) (a' := ?_) #[true, true, false, true, true, false, false, false, false, false, false, false] rfl rfl (any_of HT_.out Z59) (fun _ _ _ h => h) (Or.inl ⟨(by rfl), ?_⟩) ?_ ?_
       rotate_left
       ·
        intro w'
        go_simp
        with_reducible rfl
       rotate_left
       ·
        simp only [Act.put, List.setIfInBounds_toArray, List.set_cons_zero, List.set_cons_succ, i64_w, i32_w]
        rfl
       refine pure_ (i := 5) (N := some 23) (v := ?_) (a' := ?_) #[true, true, false, true, true, true, false, false, false, false, false, false] rfl rfl (any_of HT_.out Z59) (fun _ _ _ h => h) (Or.inl ⟨(by rfl), ?_⟩) ?_ ?_
       rotate_left
       ·
        intro w'
        go_simp
        with_reducible rfl
       rotate_left
       ·
        simp only [Act.put, List.setIfInBounds_toArray, List.set_cons_zero, List.set_cons_succ, i64_w, i32_w]
        rfl
       refine pure_ (i := 6) (N := some 24) (v := ?_) (a' := ?_) #[true, true, false, true, true, true, true, false, false, false, false, false] rfl rfl (any_of HT_.out Z59) (fun _ _ _ h => h) (Or.inl ⟨(by rfl), ?_⟩) ?_ ?_
       rotate_left
       ·
        intro w'
        go_simp
        with_reducible rfl
       rotate_left
       ·
        simp only [Act.put, List.setIfInBounds_toArray, List.set_cons_zero, List.set_cons_succ, i64_w, i32_w]
        rfl
       refine take_ (i := 2) (N := some 20) (v := ?_) (a' := ?_) #[true, true, true, true, true, true, true, false, false, false, false, false] rfl rfl (take_ofW HT_.out HW_.out Z59) (fun _ _ _ h => h) (Or.inl ⟨(by rfl), ?_⟩) hHeld ?_ ?_
       rotate_left
       ·
        rintro w' ⟨s0, s1, s2, s3, s4, s5, s6, s7⟩
        go_simp
        with_reducible rfl
       rotate_left
       ·
        simp only [Act.put, List.setIfInBounds_toArray, List.set_cons_zero, List.set_cons_succ, i64_w, i32_w]
        rfl
       refine one_ (i := 7) (N := some 25) #[true, true, true, true, true, true, true, true, false, false, false, false] rfl rfl (one_of HT_.out Z59) (by decide) (fun K hK => ?_)
       refine goes_ Try.func21 Z59 rfl #[.pointer (some ⟨gb236, 0, none⟩), .int .i64 (t237.length : Int)] (by rfl) rfl rfl (by (try simp only [List.map_toArray, List.map_cons, List.map_nil]); first | done | rfl | (simp only [List.length_drop, List.length_take]; rfl)) ?_
       with_reducible refine (spec_l1Cur_pick.calls gb236 l0 x237001_2 x237002_2 (t237.length : Int) t246 t247 t248 w _ ?side1 ?side2 A15.out).mono ?_
       (case side1 => repeat (first | (with_reducible first | exact HI236.out | apply IsS42.alloc | apply IsS42.drewN | apply IsS42.drew | apply IsS42.set_1 | apply IsS42.set_2 | refine IsS42.far ?_ NB236_234.out _ | refine IsS42.far ?_ NB236_235.out _) | exact HI236.out))
       (case side2 => repeat (first | (with_reducible first | exact HB.out | apply below_alloc | apply pw_below_drewN | apply below_drew1 | refine below_set ?_ (IsS42.ge HI236.out) | refine below_set ?_ GE234.out | refine below_set ?_ GE235.out) | exact HB.out))
       rintro e w20 ⟨rfl, hi, hb, hk⟩
       (try have hq0_ := Kd.own_blk (IsS42.own_ne HI236.out HO_5.out (by decide)))
       have HS0_ := keep_cell hk (hHeld.1) Z94
       (try have hq0_ := Kd.own_blk (IsS42.own_ne HI236.out HO_5.out (by decide)))
       have HS1_ := keep_cell hk (hHeld.2.1) Z94
       (try have hq0_ := Kd.own_blk (IsS42.own_ne HI236.out HO_5.out (by decide)))
       have HS2_ := keep_cell hk (hHeld.2.2.1) Z94
       (try have hq0_ := Kd.own_blk (IsS42.own_ne HI236.out HO_5.out (by decide)))
       have HS3_ := keep_cell hk (hHeld.2.2.2.1) Z94
       (try have hq0_ := Kd.own_blk (IsS42.own_ne HI236.out HO_5.out (by decide)))
       have HS4_ := keep_cell hk (hHeld.2.2.2.2.1) Z94
       (try have hq0_ := Kd.own_blk (IsS42.own_ne HI236.out HO_5.out (by decide)))
       have HS5_ := keep_cell hk (hHeld.2.2.2.2.2.1) Z94
       (try have hq0_ := Kd.own_blk (IsS42.own_ne HI236.out HO_5.out (by decide)))
       have HS6_ := keep_cell hk (hHeld.2.2.2.2.2.2.1) Z94
       (try have hq0_ := Kd.own_blk (IsS42.own_ne HI236.out HO_5.out (by decide)))
       have HS7_ := keep_cell hk (hHeld.2.2.2.2.2.2.2) Z94
       refine ⟨_, rfl, ?_⟩
       have n0_ := Aside0.mk (Kd.R_mono (Kd.R_keep (IsS42.apart (show IsS42 w _ gb236 l0 x237001_2 x237002_2 from by repeat (first | (with_reducible first | exact HI236.out | apply IsS42.alloc | apply IsS42.drewN | apply IsS42.drew | apply IsS42.set_1 | apply IsS42.set_2 | refine IsS42.far ?_ NB236_234.out _ | refine IsS42.far ?_ NB236_235.out _) | exact HI236.out)) Z32 (by decide)) hk (fun _ h => h.2)) (fun _ h => h.1))
       have n1_ := Aside0.mk (KeepBut.blk hk (g' := gb234) (o := .cells #[.int .i64 0, .int .i64 0, .int .i64 0, .int .i64 0] 25 (0, 0)) Z60 NB234_236.out (by simp))
       have n2_ := Aside0.mk (KeepBut.blk hk (g' := gb235) (o := .cells #[.int .i64 0, .int .i64 0, .int .i64 0, .int .i64 0] 25 (0, 0)) Z61 NB235_236.out (by simp))
       have n3_ := Aside0.mk (hb)
       have n4_ := Aside0.mk (hi)
       clear HO_5
       clear BK234
       clear BK235
       clear HB
       clear HI236
       have HO_5 := n0_
       have BK234 := n1_
       have BK235 := n2_
       have HB := n3_
       have HI236 := n4_
       clear n0_ n1_ n2_ n3_ n4_
       (try clear hb)
       (try clear hb2)
       (try clear hk)
       (try clear hi)
       refine hK.out _ _ ⟨HS0_, HS1_, HS2_, HS3_, HS4_, HS5_, HS6_, HS7_⟩ (fun hHeld => ?_)
       clear hK K
       refine norm_ (a' := ?_) ?_ ?_
       rotate_left
       ·
        show Act.put _ (some 25) _ = _
        simp only [Act.put, List.setIfInBounds_toArray, List.set_cons_zero, List.set_cons_succ, i64_w, i32_w]
        rfl
       refine pure_ (i := 8) (N := some 26) (v := ?_) (a' := ?_) #[true, true, true, true, true, true, true, true, true, false, false, false] rfl rfl (any_of HT_.out Z59) (fun _ _ _ h => h) (Or.inl ⟨(by rfl), ?_⟩) ?_ ?_
       rotate_left
       ·
        intro w'
        go_simp
        with_reducible rfl
       rotate_left
       ·
        simp only [Act.put, List.setIfInBounds_toArray, List.set_cons_zero, List.set_cons_succ, i64_w, i32_w]
        rfl
       refine take_ (i := 9) (N := some 27) (v := ?_) (a' := ?_) #[true, true, true, true, true, true, true, true, true, true, false, false] rfl rfl (take_ofW HT_.out HW_.out Z59) (fun _ _ _ h => h) (Or.inl ⟨(by rfl), ?_⟩) hHeld ?_ ?_
       rotate_left
       ·
        rintro w' ⟨s0, s1, s2, s3, s4, s5, s6, s7⟩
        go_simp
        with_reducible rfl
       rotate_left
       ·
        simp only [Act.put, List.setIfInBounds_toArray, List.set_cons_zero, List.set_cons_succ, i64_w, i32_w]
        rfl
       refine one_ (i := 10) (N := none) #[true, true, true, true, true, true, true, true, true, true, true, false] rfl rfl (one_of HT_.out Z59) (by decide) (fun K hK => ?_)
       have hs21 : w20.cell? ⟨gb234, 0, none⟩ = some (.int .i64 0) := (blk_cell BK234.out 0).trans rfl
       have hfs21 := blk_frozen BK234.out 0
       have hns21_1 := NB235_234.out
       have hms21_1 := NB234_235.out
       have hs22 : w20.cell? ⟨gb234, 1, none⟩ = some (.int .i64 0) := (blk_cell BK234.out 1).trans rfl
       have hfs22 := blk_frozen BK234.out 1
       have hns22_1 := NB235_234.out
       have hms22_1 := NB234_235.out
       have hs23 : w20.cell? ⟨gb234, 2, none⟩ = some (.int .i64 0) := (blk_cell BK234.out 2).trans rfl
       have hfs23 := blk_frozen BK234.out 2
       have hns23_1 := NB235_234.out
       have hms23_1 := NB234_235.out
       have hs24 : w20.cell? ⟨gb234, 3, none⟩ = some (.int .i64 0) := (blk_cell BK234.out 3).trans rfl
       have hfs24 := blk_frozen BK234.out 3
       have hns24_1 := NB235_234.out
       have hms24_1 := NB234_235.out
       refine skip_ (w1 := ?_) (by rfl) rfl ?_ ?_
       rotate_left
       ·
        go_simp
        rfl
       (try have hq0_ := Kd.own_blk (Kd.R_away HO_5.out (fun _ hk => hk.1)))
       refine hK.out _ _ ⟨((cell_far (p := ⟨gb234, _, none⟩) Z109 _).trans (((cell_far (p := ⟨gb234, _, none⟩) Z109 _).trans (((cell_far (p := ⟨gb234, _, none⟩) Z109 _).trans (((cell_far (p := ⟨gb234, _, none⟩) Z109 _).trans (hHeld.1)))))))), ((cell_far (p := ⟨gb234, _, none⟩) Z109 _).trans (((cell_far (p := ⟨gb234, _, none⟩) Z109 _).trans (((cell_far (p := ⟨gb234, _, none⟩) Z109 _).trans (((cell_far (p := ⟨gb234, _, none⟩) Z109 _).trans (hHeld.2.1)))))))), ((cell_far (p := ⟨gb234, _, none⟩) Z109 _).trans (((cell_far (p := ⟨gb234, _, none⟩) Z109 _).trans (((cell_far (p := ⟨gb234, _, none⟩) Z109 _).trans (((cell_far (p := ⟨gb234, _, none⟩) Z109 _).trans (hHeld.2.2.1)))))))), ((cell_far (p := ⟨gb234, _, none⟩) Z109 _).trans (((cell_far (p := ⟨gb234, _, none⟩) Z109 _).trans (((cell_far (p := ⟨gb234, _, none⟩) Z109 _).trans (((cell_far (p := ⟨gb234, _, none⟩) Z109 _).trans (hHeld.2.2.2.1)))))))), ((cell_far (p := ⟨gb234, _, none⟩) Z109 _).trans (((cell_far (p := ⟨gb234, _, none⟩) Z109 _).trans (((cell_far (p := ⟨gb234, _, none⟩) Z109 _).trans (((cell_far (p := ⟨gb234, _, none⟩) Z109 _).trans (hHeld.2.2.2.2.1)))))))), ((cell_far (p := ⟨gb234, _, none⟩) Z109 _).trans (((cell_far (p := ⟨gb234, _, none⟩) Z109 _).trans (((cell_far (p := ⟨gb234, _, none⟩) Z109 _).trans (((cell_far (p := ⟨gb234, _, none⟩) Z109 _).trans (hHeld.2.2.2.2.2.1)))))))), ((cell_far (p := ⟨gb234, _, none⟩) Z109 _).trans (((cell_far (p := ⟨gb234, _, none⟩) Z109 _).trans (((cell_far (p := ⟨gb234, _, none⟩) Z109 _).trans (((cell_far (p := ⟨gb234, _, none⟩) Z109 _).trans (hHeld.2.2.2.2.2.2.1)))))))), ((cell_far (p := ⟨gb234, _, none⟩) Z109 _).trans (((cell_far (p := ⟨gb234, _, none⟩) Z109 _).trans (((cell_far (p := ⟨gb234, _, none⟩) Z109 _).trans (((cell_far (p := ⟨gb234, _, none⟩) Z109 _).trans (hHeld.2.2.2.2.2.2.2))))))))⟩ (fun hHeld => ?_)
       clear hK K
       refine one_ (i := 11) (N := none) #[true, true, true, true, true, true, true, true, true, true, true, true] rfl rfl (one_of HT_.out Z59) (by decide) (fun K hK => ?_)
       have hs25 : w20.cell? ⟨gb235, 0, none⟩ = some (.int .i64 0) := (blk_cell BK235.out 0).trans rfl
       have hfs25 := blk_frozen BK235.out 0
       have hns25_0 := NB234_235.out
       have hms25_0 := NB235_234.out
       have hs26 : w20.cell? ⟨gb235, 1, none⟩ = some (.int .i64 0) := (blk_cell BK235.out 1).trans rfl
       have hfs26 := blk_frozen BK235.out 1
       have hns26_0 := NB234_235.out
       have hms26_0 := NB235_234.out
       have hs27 : w20.cell? ⟨gb235, 2, none⟩ = some (.int .i64 0) := (blk_cell BK235.out 2).trans rfl
       have hfs27 := blk_frozen BK235.out 2
       have hns27_0 := NB234_235.out
       have hms27_0 := NB235_234.out
       have hs28 : w20.cell? ⟨gb235, 3, none⟩ = some (.int .i64 0) := (blk_cell BK235.out 3).trans rfl
       have hfs28 := blk_frozen BK235.out 3
       have hns28_0 := NB234_235.out
       have hms28_0 := NB235_234.out
       refine skip_ (w1 := ?_) (by rfl) rfl ?_ ?_
       rotate_left
       ·
        go_simp
        rfl
       (try have hq0_ := Kd.own_blk (Kd.R_away HO_5.out (fun _ hk => hk.2)))
       refine hK.out _ _ ⟨((cell_far (p := ⟨gb235, _, none⟩) Z110 _).trans (((cell_far (p := ⟨gb235, _, none⟩) Z110 _).trans (((cell_far (p := ⟨gb235, _, none⟩) Z110 _).trans (((cell_far (p := ⟨gb235, _, none⟩) Z110 _).trans (hHeld.1)))))))), ((cell_far (p := ⟨gb235, _, none⟩) Z110 _).trans (((cell_far (p := ⟨gb235, _, none⟩) Z110 _).trans (((cell_far (p := ⟨gb235, _, none⟩) Z110 _).trans (((cell_far (p := ⟨gb235, _, none⟩) Z110 _).trans (hHeld.2.1)))))))), ((cell_far (p := ⟨gb235, _, none⟩) Z110 _).trans (((cell_far (p := ⟨gb235, _, none⟩) Z110 _).trans (((cell_far (p := ⟨gb235, _, none⟩) Z110 _).trans (((cell_far (p := ⟨gb235, _, none⟩) Z110 _).trans (hHeld.2.2.1)))))))), ((cell_far (p := ⟨gb235, _, none⟩) Z110 _).trans (((cell_far (p := ⟨gb235, _, none⟩) Z110 _).trans (((cell_far (p := ⟨gb235, _, none⟩) Z110 _).trans (((cell_far (p := ⟨gb235, _, none⟩) Z110 _).trans (hHeld.2.2.2.1)))))))), ((cell_far (p := ⟨gb235, _, none⟩) Z110 _).trans (((cell_far (p := ⟨gb235, _, none⟩) Z110 _).trans (((cell_far (p := ⟨gb235, _, none⟩) Z110 _).trans (((cell_far (p := ⟨gb235, _, none⟩) Z110 _).trans (hHeld.2.2.2.2.1)))))))), ((cell_far (p := ⟨gb235, _, none⟩) Z110 _).trans (((cell_far (p := ⟨gb235, _, none⟩) Z110 _).trans (((cell_far (p := ⟨gb235, _, none⟩) Z110 _).trans (((cell_far (p := ⟨gb235, _, none⟩) Z110 _).trans (hHeld.2.2.2.2.2.1)))))))), ((cell_far (p := ⟨gb235, _, none⟩) Z110 _).trans (((cell_far (p := ⟨gb235, _, none⟩) Z110 _).trans (((cell_far (p := ⟨gb235, _, none⟩) Z110 _).trans (((cell_far (p := ⟨gb235, _, none⟩) Z110 _).trans (hHeld.2.2.2.2.2.2.1)))))))), ((cell_far (p := ⟨gb235, _, none⟩) Z110 _).trans (((cell_far (p := ⟨gb235, _, none⟩) Z110 _).trans (((cell_far (p := ⟨gb235, _, none⟩) Z110 _).trans (((cell_far (p := ⟨gb235, _, none⟩) Z110 _).trans (hHeld.2.2.2.2.2.2.2))))))))⟩ (fun hHeld => ?_)
       clear hK K
       refine done_ (done_of HT_.out Z59) ?_
       try go_wp2
       refine bodyPost_ret (results_cc rfl _ _ gb234 gb235 25 25 #[.int .i64 ((rd_T25 t237 0).f0), .int .i64 ((rd_T25 t237 0).f1), .int .i64 ((rd_T25 t237 0).f2), .int .i64 ((rd_T25 t237 0).f3)] #[.int .i64 ((rd_T25 t237 t246).f0), .int .i64 ((rd_T25 t237 t246).f1), .int .i64 ((rd_T25 t237 t246).f2), .int .i64 ((rd_T25 t237 t246).f3)] (0, 0) (0, 0) _ _ rfl (by (with_reducible repeat (first | refine blk_drewN ?_ _ | refine blk_drew ?_ | refine blk_alloc ?_ _)); refine blk_far ?_ NB234_235.out _; (with_reducible repeat (first | refine blk_drewN ?_ _ | refine blk_drew ?_ | refine blk_alloc ?_ _)); refine blk_far ?_ NB234_235.out _; (with_reducible repeat (first | refine blk_drewN ?_ _ | refine blk_drew ?_ | refine blk_alloc ?_ _)); refine blk_far ?_ NB234_235.out _; (with_reducible repeat (first | refine blk_drewN ?_ _ | refine blk_drew ?_ | refine blk_alloc ?_ _)); refine blk_far ?_ NB234_235.out _; (with_reducible repeat (first | refine blk_drewN ?_ _ | refine blk_drew ?_ | refine blk_alloc ?_ _)); refine blk_put (cs := #[.int .i64 ((rd_T25 t237 0).f0), .int .i64 ((rd_T25 t237 0).f1), .int .i64 ((rd_T25 t237 0).f2), .int .i64 0]) ?_ 3 _ rfl; (with_reducible repeat (first | refine blk_drewN ?_ _ | refine blk_drew ?_ | refine blk_alloc ?_ _)); refine blk_put (cs := #[.int .i64 ((rd_T25 t237 0).f0), .int .i64 ((rd_T25 t237 0).f1), .int .i64 0, .int .i64 0]) ?_ 2 _ rfl; (with_reducible repeat (first | refine blk_drewN ?_ _ | refine blk_drew ?_ | refine blk_alloc ?_ _)); refine blk_put (cs := #[.int .i64 ((rd_T25 t237 0).f0), .int .i64 0, .int .i64 0, .int .i64 0]) ?_ 1 _ rfl; (with_reducible repeat (first | refine blk_drewN ?_ _ | refine blk_drew ?_ | refine blk_alloc ?_ _)); refine blk_put (cs := #[.int .i64 0, .int .i64 0, .int .i64 0, .int .i64 0]) ?_ 0 _ rfl; (with_reducible repeat (first | refine blk_drewN ?_ _ | refine blk_drew ?_ | refine blk_alloc ?_ _)); exact BK234.out) Try.underlying25 rfl Z59 rfl (by (with_reducible repeat (first | refine blk_drewN ?_ _ | refine blk_drew ?_ | refine blk_alloc ?_ _)); refine blk_put (cs := #[.int .i64 ((rd_T25 t237 t246).f0), .int .i64 ((rd_T25 t237 t246).f1), .int .i64 ((rd_T25 t237 t246).f2), .int .i64 0]) ?_ 3 _ rfl; (with_reducible repeat (first | refine blk_drewN ?_ _ | refine blk_drew ?_ | refine blk_alloc ?_ _)); refine blk_put (cs := #[.int .i64 ((rd_T25 t237 t246).f0), .int .i64 ((rd_T25 t237 t246).f1), .int .i64 0, .int .i64 0]) ?_ 2 _ rfl; (with_reducible repeat (first | refine blk_drewN ?_ _ | refine blk_drew ?_ | refine blk_alloc ?_ _)); refine blk_put (cs := #[.int .i64 ((rd_T25 t237 t246).f0), .int .i64 0, .int .i64 0, .int .i64 0]) ?_ 1 _ rfl; (with_reducible repeat (first | refine blk_drewN ?_ _ | refine blk_drew ?_ | refine blk_alloc ?_ _)); refine blk_put (cs := #[.int .i64 0, .int .i64 0, .int .i64 0, .int .i64 0]) ?_ 0 _ rfl; (with_reducible repeat (first | refine blk_drewN ?_ _ | refine blk_drew ?_ | refine blk_alloc ?_ _)); refine blk_far ?_ NB235_234.out _; (with_reducible repeat (first | refine blk_drewN ?_ _ | refine blk_drew ?_ | refine blk_alloc ?_ _)); refine blk_far ?_ NB235_234.out _; (with_reducible repeat (first | refine blk_drewN ?_ _ | refine blk_drew ?_ | refine blk_alloc ?_ _)); refine blk_far ?_ NB235_234.out _; (with_reducible repeat (first | refine blk_drewN ?_ _ | refine blk_drew ?_ | refine blk_alloc ?_ _)); refine blk_far ?_ NB235_234.out _; (with_reducible repeat (first | refine blk_drewN ?_ _ | refine blk_drew ?_ | refine blk_alloc ?_ _)); exact BK235.out) Try.underlying25 rfl Z59) rfl ?_
       exact ⟨Z106, Z63⟩
      ·
       rw [if_neg c17] at H
       exact absurd H (by simp)
     ·
      rw [if_neg c16] at H
      exact absurd H (by simp)
    ·
     rw [if_neg c14] at H
     exact absurd H (by simp)
   ·
    replace c13 := Bool.eq_false_iff.mpr c13
    subst c13
    have H1 : ((spec_l1Cur_circle.f kj2 l0 x237001_2 x237002_2).bind fun bt250 => ((spec_l1Cur_circle.f kj2 l0 bt250.2.2.2.2.1 bt250.2.2.2.2.2).bind fun bt256 => (some (bt250.1, bt250.2.1, bt250.2.2.1, bt250.2.2.2.1, bt256.1, bt256.2.1, bt256.2.2.1, bt256.2.2.2.1)))) = some (r1, r2, r3, r4, r5, r6, r7, r8) := by rw [if_neg (show ¬ (false = true) by decide)] at H; exact H
    clear H
    have H := H1
    clear H1
    replace H := Option.bind_eq_some_iff.mp H
    obtain ⟨⟨t250, t251, t252, t253, t254, t255⟩, A290, H⟩ := H
    replace H : ((spec_l1Cur_circle.f kj2 l0 t254 t255).bind fun bt256 => (some (t250, t251, t252, t253, bt256.1, bt256.2.1, bt256.2.2.1, bt256.2.2.2.1))) = some (r1, r2, r3, r4, r5, r6, r7, r8) := H
    have A29 := Aside0.mk A290
    clear A290
    replace H := Option.bind_eq_some_iff.mp H
    obtain ⟨⟨t256, t257, t258, t259, t260, t261⟩, A300, H⟩ := H
    replace H : (some (t250, t251, t252, t253, t256, t257, t258, t259)) = some (r1, r2, r3, r4, r5, r6, r7, r8) := H
    have A30 := Aside0.mk A300
    clear A300
    simp only [Option.some.injEq, Prod.mk.injEq] at H
    obtain ⟨rfl, rfl, rfl, rfl, rfl, rfl, rfl, rfl⟩ := H
    go_wp2_with (first | ((with_reducible refine gate_callee (f := 22) rfl ?_); refine goesN_ 22 (some 29) Try.func22 #[.pointer (some ⟨gb236, 0, none⟩)] ?_; (with_reducible refine (spec_l1Cur_circle.calls kj2 gb236 l0 x237001_2 x237002_2 t250 t251 t252 t253 t254 t255 w _ ?side1 ?side2 A29.out).mono ?_); (case side1 => repeat (first | (with_reducible first | exact HI236.out | apply IsS42.alloc | apply IsS42.drewN | apply IsS42.drew | apply IsS42.set_1 | apply IsS42.set_2 | refine IsS42.far ?_ NB236_234.out _ | refine IsS42.far ?_ NB236_235.out _) | exact HI236.out)); (case side2 => repeat (first | (with_reducible first | exact HB.out | apply below_alloc | apply pw_below_drewN | apply below_drew1 | refine below_set ?_ (IsS42.ge HI236.out) | refine below_set ?_ GE234.out | refine below_set ?_ GE235.out) | exact HB.out)); rintro e w31 ⟨rfl, hi, hb, hk⟩; refine ⟨_, rfl, ?_⟩; replace HO_5 := Aside0.mk (Kd.R_mono (Kd.R_keep (IsS42.apart (show IsS42 w _ gb236 l0 x237001_2 x237002_2 from by repeat (first | (with_reducible first | exact HI236.out | apply IsS42.alloc | apply IsS42.drewN | apply IsS42.drew | apply IsS42.set_1 | apply IsS42.set_2 | refine IsS42.far ?_ NB236_234.out _ | refine IsS42.far ?_ NB236_235.out _) | exact HI236.out)) Z32 (by decide)) hk (fun _ h => h.2)) (fun _ h => h.1)); replace BK234 := Aside0.mk (KeepBut.blk hk (g' := gb234) (o := .cells #[.int .i64 0, .int .i64 0, .int .i64 0, .int .i64 0] 25 (0, 0)) Z60 NB234_236.out (by simp)); replace BK235 := Aside0.mk (KeepBut.blk hk (g' := gb235) (o := .cells #[.int .i64 0, .int .i64 0, .int .i64 0, .int .i64 0] 25 (0, 0)) Z61 NB235_236.out (by simp)); replace HB := Aside0.mk hb; replace HI236 := Aside0.mk hi; clear hb hk hi) | ((with_reducible refine gate_callee (f := 22) rfl ?_); refine goesN_ 22 (some 31) Try.func22 #[.pointer (some ⟨gb236, 0, none⟩)] ?_; (with_reducible refine (spec_l1Cur_circle.calls kj2 gb236 l0 t254 t255 t256 t257 t258 t259 t260 t261 w _ ?side1 ?side2 A30.out).mono ?_); (case side1 => repeat (first | (with_reducible first | exact HI236.out | apply IsS42.alloc | apply IsS42.drewN | apply IsS42.drew | apply IsS42.set_1 | apply IsS42.set_2 | refine IsS42.far ?_ NB236_234.out _ | refine IsS42.far ?_ NB236_235.out _) | exact HI236.out)); (case side2 => repeat (first | (with_reducible first | exact HB.out | apply below_alloc | apply pw_below_drewN | apply below_drew1 | refine below_set ?_ (IsS42.ge HI236.out) | refine below_set ?_ GE234.out | refine below_set ?_ GE235.out) | exact HB.out)); rintro e w32 ⟨rfl, hi, hb, hk⟩; refine ⟨_, rfl, ?_⟩; replace HO_5 := Aside0.mk (Kd.R_mono (Kd.R_keep (IsS42.apart (show IsS42 w _ gb236 l0 t254 t255 from by repeat (first | (with_reducible first | exact HI236.out | apply IsS42.alloc | apply IsS42.drewN | apply IsS42.drew | apply IsS42.set_1 | apply IsS42.set_2 | refine IsS42.far ?_ NB236_234.out _ | refine IsS42.far ?_ NB236_235.out _) | exact HI236.out)) Z32 (by decide)) hk (fun _ h => h.2)) (fun _ h => h.1)); replace BK234 := Aside0.mk (KeepBut.blk hk (g' := gb234) (o := .cells #[.int .i64 0, .int .i64 0, .int .i64 0, .int .i64 0] 25 (0, 0)) Z60 NB234_236.out (by simp)); replace BK235 := Aside0.mk (KeepBut.blk hk (g' := gb235) (o := .cells #[.int .i64 0, .int .i64 0, .int .i64 0, .int .i64 0] 25 (0, 0)) Z61 NB235_236.out (by simp)); replace HB := Aside0.mk hb; replace HI236 := Aside0.mk hi; clear hb hk hi; have hnb33 := NB234_235.out; have hnc33 := NB235_234.out; have hnb34 := NB234_236.out; have hnc34 := NB236_234.out; obtain ⟨_, _, _, _, _, _, _, _⟩ := cz4_ BK234; have hnb36 := NB235_236.out; have hnc36 := NB236_235.out; obtain ⟨_, _, _, _, _, _, _, _⟩ := cz4_ BK235))
    refine bodyPost_ret (results_cc rfl _ _ gb234 gb235 25 25 #[.int .i64 t250, .int .i64 t251, .int .i64 t252, .int .i64 t253] #[.int .i64 t256, .int .i64 t257, .int .i64 t258, .int .i64 t259] (0, 0) (0, 0) _ _ rfl (by (with_reducible repeat (first | refine blk_drewN ?_ _ | refine blk_drew ?_ | refine blk_alloc ?_ _)); refine blk_far ?_ NB234_235.out _; (with_reducible repeat (first | refine blk_drewN ?_ _ | refine blk_drew ?_ | refine blk_alloc ?_ _)); refine blk_far ?_ NB234_235.out _; (with_reducible repeat (first | refine blk_drewN ?_ _ | refine blk_drew ?_ | refine blk_alloc ?_ _)); refine blk_far ?_ NB234_235.out _; (with_reducible repeat (first | refine blk_drewN ?_ _ | refine blk_drew ?_ | refine blk_alloc ?_ _)); refine blk_far ?_ NB234_235.out _; (with_reducible repeat (first | refine blk_drewN ?_ _ | refine blk_drew ?_ | refine blk_alloc ?_ _)); refine blk_put (cs := #[.int .i64 t250, .int .i64 t251, .int .i64 t252, .int .i64 0]) ?_ 3 _ rfl; (with_reducible repeat (first | refine blk_drewN ?_ _ | refine blk_drew ?_ | refine blk_alloc ?_ _)); refine blk_put (cs := #[.int .i64 t250, .int .i64 t251, .int .i64 0, .int .i64 0]) ?_ 2 _ rfl; (with_reducible repeat (first | refine blk_drewN ?_ _ | refine blk_drew ?_ | refine blk_alloc ?_ _)); refine blk_put (cs := #[.int .i64 t250, .int .i64 0, .int .i64 0, .int .i64 0]) ?_ 1 _ rfl; (with_reducible repeat (first | refine blk_drewN ?_ _ | refine blk_drew ?_ | refine blk_alloc ?_ _)); refine blk_put (cs := #[.int .i64 0, .int .i64 0, .int .i64 0, .int .i64 0]) ?_ 0 _ rfl; (with_reducible repeat (first | refine blk_drewN ?_ _ | refine blk_drew ?_ | refine blk_alloc ?_ _)); exact BK234.out) Try.underlying25 rfl Z59 rfl (by (with_reducible repeat (first | refine blk_drewN ?_ _ | refine blk_drew ?_ | refine blk_alloc ?_ _)); refine blk_put (cs := #[.int .i64 t256, .int .i64 t257, .int .i64 t258, .int .i64 0]) ?_ 3 _ rfl; (with_reducible repeat (first | refine blk_drewN ?_ _ | refine blk_drew ?_ | refine blk_alloc ?_ _)); refine blk_put (cs := #[.int .i64 t256, .int .i64 t257, .int .i64 0, .int .i64 0]) ?_ 2 _ rfl; (with_reducible repeat (first | refine blk_drewN ?_ _ | refine blk_drew ?_ | refine blk_alloc ?_ _)); refine blk_put (cs := #[.int .i64 t256, .int .i64 0, .int .i64 0, .int .i64 0]) ?_ 1 _ rfl; (with_reducible repeat (first | refine blk_drewN ?_ _ | refine blk_drew ?_ | refine blk_alloc ?_ _)); refine blk_put (cs := #[.int .i64 0, .int .i64 0, .int .i64 0, .int .i64 0]) ?_ 0 _ rfl; (with_reducible repeat (first | refine blk_drewN ?_ _ | refine blk_drew ?_ | refine blk_alloc ?_ _)); refine blk_far ?_ NB235_234.out _; (with_reducible repeat (first | refine blk_drewN ?_ _ | refine blk_drew ?_ | refine blk_alloc ?_ _)); refine blk_far ?_ NB235_234.out _; (with_reducible repeat (first | refine blk_drewN ?_ _ | refine blk_drew ?_ | refine blk_alloc ?_ _)); refine blk_far ?_ NB235_234.out _; (with_reducible repeat (first | refine blk_drewN ?_ _ | refine blk_drew ?_ | refine blk_alloc ?_ _)); refine blk_far ?_ NB235_234.out _; (with_reducible repeat (first | refine blk_drewN ?_ _ | refine blk_drew ?_ | refine blk_alloc ?_ _)); exact BK235.out) Try.underlying25 rfl Z59) rfl ?_
    exact ⟨Z106, Z63⟩

/-! ### impl_within: function 28 -/
def impl_within.f (a0 : Int) (a1 : Int) (a2 : Int) : Option (Bool) := if a0 ≥ a1 then (some (decide (a0 ≤ a2))) else (some false)
set_option maxHeartbeats 8000000 in
set_option maxRecDepth 100000 in
theorem impl_within.calls (a0 : Int) (a1 : Int) (a2 : Int) (r : Bool) (w : World) (h : impl_within.f a0 a1 a2 = some r) :
  Calls Try.prog 28 #[.int .i64 a0, .int .i64 a1, .int .i64 a2] w fun e w' => e = .returned (.bool r) ∧ Drawn0 w w' := by
 have H : (if a0 ≥ a1 then (some (decide (a0 ≤ a2))) else (some false)) = some r := h
 clear h
 by_cases c4 : a0 ≥ a1
 ·
  rw [if_pos c4] at H
  have c4b0 : decide (a1 ≤ a0) = true := decide_eq_true c4
  clear c4
  obtain rfl := Option.some.inj H
  go_enter Try.func28, Try.ntmps28
  go_wp2
  go_ret
  exact ⟨Z91, Z64⟩
 ·
  rw [if_neg c4] at H
  have c4b0 : decide (a1 ≤ a0) = false := decide_eq_false c4
  clear c4
  obtain rfl := Option.some.inj H
  go_enter Try.func28, Try.ntmps28
  go_wp2
  go_ret
  exact ⟨Z91, Z64⟩

end Go.Proofs.Ytkllcinoodfffaa.P
