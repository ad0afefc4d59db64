/- Written by a program of this session: for Go functions that a statement reaches, Lean functions with the same answers and the proofs that the calls come to them; conditions: none but the arguments' kinds. -/
import Derived.Test.YtkllcinoodfffaaP0
import Derived.Test.YtkllcinoodfffaaP2
import Derived.Test.YtkllcinoodfffaaP4
namespace Go.Proofs.Ytkllcinoodfffaa.P
open Go.RowKit Go.Proofs.YtkllcinoodfffaaW.PrintWords Go.Proofs.YtkllcinoodfffaaW.PrintLast Go.Proofs.YtkllcinoodfffaaW.PrintMore
attribute [local go_sem] max2_int min2_int max_two min_two max_three min_three max_four min_four   -- for this text's walks alone
set_option linter.unusedVariables false
set_option linter.unusedSimpArgs false

/-! ### spec_l1Cur_circle: function 22 -/
def spec_l1Cur_circle.j0 : Nat → List Int → Int → Int → Int → Int → Int → Int → Option (Int × Int × Int × Int × Int × Int)
  | 0, _, _, _, _, _, _, _ => none
  | k + 1, x1000, x1001, x1002, x210000, x210001, x210002, x210003 => (spec_l1Cur_pick.f x1000 x1001 x1002 16).bind fun bt219 => (if bt219.1 = 0 then ((spec_l1Cur_among.f x1000 bt219.2.1 bt219.2.2 (([1, (-1), 1000000] : List Int))).bind fun bt225 => (some (wrap64 (x210000 + bt225.1), x210001, x210002, x210003, bt225.2.1, bt225.2.2))) else (if bt219.1 = 1 then (some (1000000, 0, 0, 1, bt219.2.1, bt219.2.2)) else (if bt219.1 = 2 then ((spec_l1Cur_among.f x1000 bt219.2.1 bt219.2.2 (([(-9223372036854775808), 4611686018427387904] : List Int))).bind fun bt231 => (some (bt231.1, 2, 0, 0, bt231.2.1, bt231.2.2))) else (some (x210000, x210001, x210002, x210003, bt219.2.1, bt219.2.2)))))
def spec_l1Cur_circle.f (k : Nat) (s0_0 : List Int) (s0_1 : Int) (s0_2 : Int) : Option (Int × Int × Int × Int × Int × Int) := (spec_l1Cur_config.f k s0_0 s0_1 s0_2).bind fun bt210 => (if (bt210.1.length : Int) > 0 then ((spec_l1Cur_pick.f s0_0 bt210.2.1 bt210.2.2 (bt210.1.length : Int)).bind fun bt215 => (if 0 ≤ bt215.1 then (if bt215.1 < (bt210.1.length : Int) then (spec_l1Cur_circle.j0 k s0_0 bt215.2.1 bt215.2.2 ((rd_T25 bt210.1 bt215.1).f0) ((rd_T25 bt210.1 bt215.1).f1) ((rd_T25 bt210.1 bt215.1).f2) ((rd_T25 bt210.1 bt215.1).f3)) else (none)) else (none))) else (spec_l1Cur_circle.j0 k s0_0 bt210.2.1 bt210.2.2 0 0 1 0))
theorem spec_l1Cur_circle.mono_l : ∀ k, (∀ y0 y1 y2 y3 y4 y5 y6, LeO (spec_l1Cur_circle.j0 k y0 y1 y2 y3 y4 y5 y6) (spec_l1Cur_circle.j0 (k + 1) y0 y1 y2 y3 y4 y5 y6))
  | 0 => fun _ _ _ _ _ _ _ r h => by simp [spec_l1Cur_circle.j0] at h
  | k + 1 => by
    have ih0 := spec_l1Cur_circle.mono_l k
    · intro y0 y1 y2 y3 y4 y5 y6
      unfold spec_l1Cur_circle.j0
      repeat' first
      | (with_reducible exact ih0 _ _ _ _ _ _ _)
      | (with_reducible exact spec_l1Cur_config.mono _ _ _ _)
      | (with_reducible exact LeO.refl _)
      | (with_reducible exact LeO.none _)
      | (with_reducible refine LeO.ite ?_ ?_)
      | (with_reducible refine LeO.bind ?_ (fun _ => ?_))
      | exact ih0 _ _ _ _ _ _ _
      | exact spec_l1Cur_config.mono _ _ _ _
      | exact LeO.none _
      | refine LeO.ite ?_ ?_
      | refine LeO.bind ?_ (fun _ => ?_)
theorem spec_l1Cur_circle.mono : ∀ a0 a1 a2 k, LeO (spec_l1Cur_circle.f k a0 a1 a2) (spec_l1Cur_circle.f (k + 1) a0 a1 a2) := by
  intro a0 a1 a2 k
  have ih0 := spec_l1Cur_circle.mono_l k
  unfold spec_l1Cur_circle.f
  repeat' first
      | (with_reducible exact ih0 _ _ _ _ _ _ _)
      | (with_reducible exact spec_l1Cur_config.mono _ _ _ _)
      | (with_reducible exact LeO.refl _)
      | (with_reducible exact LeO.none _)
      | (with_reducible refine LeO.ite ?_ ?_)
      | (with_reducible refine LeO.bind ?_ (fun _ => ?_))
      | exact ih0 _ _ _ _ _ _ _
      | exact spec_l1Cur_config.mono _ _ _ _
      | exact LeO.none _
      | refine LeO.ite ?_ ?_
      | refine LeO.bind ?_ (fun _ => ?_)
def spec_l1Cur_circle.T7 : Bool × List (List Nat × List Nat) := (true, [([], []), ([0], [0]), ([], []), ([], []), ([2, 3], [2, 3]), ([1, 4], [1, 4]), ([0, 1, 2, 3, 4, 5], []), ([6, 5, 4, 0, 1, 2, 3, 4, 5], [5, 6])])
def spec_l1Cur_circle.B7 : List Nat := [0, 1, 0, 0, 12, 31, 63, 127]
theorem spec_l1Cur_circle.tab7 : rtab .any (opsOf Try.f22 7) = spec_l1Cur_circle.T7 := by kernel_rfl
theorem spec_l1Cur_circle.bits7 : waitsOk spec_l1Cur_circle.T7.2 spec_l1Cur_circle.B7 = true := by kernel_rfl
set_option maxHeartbeats 8000000 in
set_option maxRecDepth 100000 in
theorem spec_l1Cur_circle.calls (k : Nat) (g : Nat) (s0_0 : List Int) (s0_1 : Int) (s0_2 : Int) (r1 : Int) (r2 : Int) (r3 : Int) (r4 : Int) (r5 : Int) (r6 : Int) (w0 w : World) (hI : IsS42 w0 w g s0_0 s0_1 s0_2) (hB : Below w0.heap.size w0 w) (h : spec_l1Cur_circle.f k s0_0 s0_1 s0_2 = some (r1, r2, r3, r4, r5, r6)) :
  Calls Try.prog 22 #[.pointer (some ⟨g, 0, none⟩)] w fun e w' => e = .returned (.agg #[.int .i64 r1, .int .i64 r2, .int .i64 r3, .int .i64 r4]) ∧ IsS42 w0 w' g s0_0 r5 r6 ∧ Below w0.heap.size w0 w' ∧ KeepBut w w' g none := by
 have hu25 := Try.underlying25
 have HI0 := Aside0.mk hI
 have HK := Aside0.mk (KeepBut.refl w g none)
 have HL := Aside0.mk hB.size
 clear hI
 have HW0 := Aside0.mk hB.size
 have HB := Aside0.mk hB
 clear hB
 have H : ((spec_l1Cur_config.f k s0_0 s0_1 s0_2).bind fun bt210 => (if (bt210.1.length : Int) > 0 then ((spec_l1Cur_pick.f s0_0 bt210.2.1 bt210.2.2 (bt210.1.length : Int)).bind fun bt215 => (if 0 ≤ bt215.1 then (if bt215.1 < (bt210.1.length : Int) then (spec_l1Cur_circle.j0 k s0_0 bt215.2.1 bt215.2.2 ((rd_T25 bt210.1 bt215.1).f0) ((rd_T25 bt210.1 bt215.1).f1) ((rd_T25 bt210.1 bt215.1).f2) ((rd_T25 bt210.1 bt215.1).f3)) else (none)) else (none))) else (spec_l1Cur_circle.j0 k s0_0 bt210.2.1 bt210.2.2 0 0 1 0))) = some (r1, r2, r3, r4, r5, r6) := h
 clear h
 replace H := Option.bind_eq_some_iff.mp H
 obtain ⟨⟨t210, t213, t214⟩, A20, H⟩ := H
 replace H : (if (t210.length : Int) > 0 then ((spec_l1Cur_pick.f s0_0 t213 t214 (t210.length : Int)).bind fun bt215 => (if 0 ≤ bt215.1 then (if bt215.1 < (t210.length : Int) then (spec_l1Cur_circle.j0 k s0_0 bt215.2.1 bt215.2.2 ((rd_T25 t210 bt215.1).f0) ((rd_T25 t210 bt215.1).f1) ((rd_T25 t210 bt215.1).f2) ((rd_T25 t210 bt215.1).f3)) else (none)) else (none))) else (spec_l1Cur_circle.j0 k s0_0 t213 t214 0 0 1 0)) = some (r1, r2, r3, r4, r5, r6) := H
 have A2 := Aside0.mk A20
 clear A20
 have HC3 := Aside0.mk H
 clear H
 go_enter Try.func22, Try.ntmps22
 go_upto_if 10 with (first | ((with_reducible refine gate_dst (N := 2) rfl ?_); refine boxN_ 2 #[.int .i64 0, .int .i64 0, .int .i64 0, .int .i64 0] 25 ?_; intro gb208 hg w4 hbox hb; replace HB := Aside0.mk (below_step Z104 hb); have BK208 := Aside0.mk hbox; have GW208 := Aside0.mk ((by rw [hg]; exact (keep_size (w := w) (g := g) (row := none) Z108) : w.heap.size ≤ gb208)); have GE208 := Aside0.mk ((Nat.le_trans HW0.out (by rw [hg]; exact (keep_size (w := w) (g := g) (row := none) Z108) : w.heap.size ≤ gb208) : w0.heap.size ≤ gb208)); replace HK := Aside0.mk (KeepBut.trans Z108 (KeepBut.of_below hb g none) (.inl rfl)); have NB0_208 := Aside0.mk ((by rw [hg]; exact Nat.ne_of_lt (IsS42.lt (show IsS42 w0 _ g s0_0 s0_1 s0_2 from by repeat (first | (with_reducible first | exact HI0.out | apply IsS42.alloc | apply IsS42.drewN | apply IsS42.drew | apply IsS42.set_1 | apply IsS42.set_2) | exact HI0.out))) : g ≠ gb208)); have NB208_0 := Aside0.mk ((by rw [hg]; exact Nat.ne_of_gt (IsS42.lt (show IsS42 w0 _ g s0_0 s0_1 s0_2 from by repeat (first | (with_reducible first | exact HI0.out | apply IsS42.alloc | apply IsS42.drewN | apply IsS42.drew | apply IsS42.set_1 | apply IsS42.set_2) | exact HI0.out))) : gb208 ≠ g)); replace HI0 := Aside0.mk (IsS42.below Z103 hb); clear hb hbox hg) | ((with_reducible refine gate_dst (N := 3) rfl ?_); refine boxN_ 3 #[.int .i64 0, .int .i64 0, .int .i64 0, .int .i64 0] 25 ?_; intro gb209 hg w5 hbox hb; replace HB := Aside0.mk (below_step (by repeat (first | (with_reducible first | exact HB.out | apply below_alloc | apply pw_below_drewN | apply below_drew1 | refine below_set ?_ (IsS42.ge HI0.out) | refine below_set ?_ GE208.out) | exact HB.out)) hb); have BK209 := Aside0.mk hbox; have GW209 := Aside0.mk ((by rw [hg]; exact (keep_size (w := w) (g := g) (row := none) Z16) : w.heap.size ≤ gb209)); have GE209 := Aside0.mk ((Nat.le_trans HW0.out (by rw [hg]; exact (keep_size (w := w) (g := g) (row := none) Z16) : w.heap.size ≤ gb209) : w0.heap.size ≤ gb209)); replace HK := Aside0.mk (KeepBut.trans Z16 (KeepBut.of_below hb g none) (.inl rfl)); have NB208_209 := nl_ BK208 hg; have NB209_208 := ng_ BK208 hg; replace BK208 := bk_ BK208 hb; have NB0_209 := Aside0.mk ((by rw [hg]; exact Nat.ne_of_lt (IsS42.lt (show IsS42 w0 _ g s0_0 s0_1 s0_2 from by repeat (first | (with_reducible first | exact HI0.out | apply IsS42.alloc | apply IsS42.drewN | apply IsS42.drew | apply IsS42.set_1 | apply IsS42.set_2 | refine IsS42.far ?_ NB0_208.out _) | exact HI0.out))) : g ≠ gb209)); have NB209_0 := Aside0.mk ((by rw [hg]; exact Nat.ne_of_gt (IsS42.lt (show IsS42 w0 _ g s0_0 s0_1 s0_2 from by repeat (first | (with_reducible first | exact HI0.out | apply IsS42.alloc | apply IsS42.drewN | apply IsS42.drew | apply IsS42.set_1 | apply IsS42.set_2 | refine IsS42.far ?_ NB0_208.out _) | exact HI0.out))) : gb209 ≠ g)); replace HI0 := Aside0.mk (IsS42.below (by repeat (first | (with_reducible first | exact HI0.out | apply IsS42.alloc | apply IsS42.drewN | apply IsS42.drew | apply IsS42.set_1 | apply IsS42.set_2 | refine IsS42.far ?_ NB0_208.out _) | exact HI0.out)) hb); clear hb hbox hg; have hnb6 := NB209_208.out; have hnc6 := NB208_209.out; have hnb7 := NB209_0.out; have hnc7 := NB0_209.out; obtain ⟨_, _, _, _, _, _, _, _⟩ := cz4_ BK209) | ((with_reducible refine gate_callee (f := 19) rfl ?_); refine goesN_ 19 (some 7) Try.func19 #[.pointer (some ⟨g, 0, none⟩)] ?_; (with_reducible refine (spec_l1Cur_config.calls k g s0_0 s0_1 s0_2 t210 t213 t214 w0 _ ?side1 ?side2 A2.out).mono ?_); (case side1 => repeat (first | (with_reducible first | exact HI0.out | apply IsS42.alloc | apply IsS42.drewN | apply IsS42.drew | apply IsS42.set_1 | apply IsS42.set_2 | refine IsS42.far ?_ NB0_208.out _ | refine IsS42.far ?_ NB0_209.out _) | exact HI0.out)); (case side2 => repeat (first | (with_reducible first | exact HB.out | apply below_alloc | apply pw_below_drewN | apply below_drew1 | refine below_set ?_ (IsS42.ge HI0.out) | refine below_set ?_ GE208.out | refine below_set ?_ GE209.out) | exact HB.out)); rintro e w9 ⟨v211, rfl, ho0, hi, hb, hk⟩; refine ⟨_, rfl, ?_⟩; have HO212 := Aside0.mk (Kd.R_lower (Kd.R_newB (Kd.R_newB ho0 (g := gb208) (o := .cells #[.int .i64 0, .int .i64 0, .int .i64 0, .int .i64 0] 25 (0, 0)) Z47) (g := gb209) (o := .cells #[.int .i64 0, .int .i64 0, .int .i64 1, .int .i64 0] 25 (0, 0)) (by (with_reducible repeat (first | refine blk_drewN ?_ _ | refine blk_drew ?_ | refine blk_alloc ?_ _)); refine blk_put (cs := #[.int .i64 0, .int .i64 0, .int .i64 1, .int .i64 0]) ?_ 3 _ rfl; (with_reducible repeat (first | refine blk_drewN ?_ _ | refine blk_drew ?_ | refine blk_alloc ?_ _)); refine blk_put (cs := #[.int .i64 0, .int .i64 0, .int .i64 0, .int .i64 0]) ?_ 2 _ rfl; (with_reducible repeat (first | refine blk_drewN ?_ _ | refine blk_drew ?_ | refine blk_alloc ?_ _)); refine blk_put (cs := #[.int .i64 0, .int .i64 0, .int .i64 0, .int .i64 0]) ?_ 1 _ rfl; (with_reducible repeat (first | refine blk_drewN ?_ _ | refine blk_drew ?_ | refine blk_alloc ?_ _)); refine blk_put (cs := #[.int .i64 0, .int .i64 0, .int .i64 0, .int .i64 0]) ?_ 0 _ rfl; (with_reducible repeat (first | refine blk_drewN ?_ _ | refine blk_drew ?_ | refine blk_alloc ?_ _)); exact BK209.out)) (keep_size (w := w) (g := g) (row := none) Z101)); replace BK208 := Aside0.mk (KeepBut.blk hk (g' := gb208) (o := .cells #[.int .i64 0, .int .i64 0, .int .i64 0, .int .i64 0] 25 (0, 0)) Z47 NB208_0.out (by simp)); replace BK209 := Aside0.mk (KeepBut.blk hk (g' := gb209) (o := .cells #[.int .i64 0, .int .i64 0, .int .i64 1, .int .i64 0] 25 (0, 0)) (by (with_reducible repeat (first | refine blk_drewN ?_ _ | refine blk_drew ?_ | refine blk_alloc ?_ _)); refine blk_put (cs := #[.int .i64 0, .int .i64 0, .int .i64 1, .int .i64 0]) ?_ 3 _ rfl; (with_reducible repeat (first | refine blk_drewN ?_ _ | refine blk_drew ?_ | refine blk_alloc ?_ _)); refine blk_put (cs := #[.int .i64 0, .int .i64 0, .int .i64 0, .int .i64 0]) ?_ 2 _ rfl; (with_reducible repeat (first | refine blk_drewN ?_ _ | refine blk_drew ?_ | refine blk_alloc ?_ _)); refine blk_put (cs := #[.int .i64 0, .int .i64 0, .int .i64 0, .int .i64 0]) ?_ 1 _ rfl; (with_reducible repeat (first | refine blk_drewN ?_ _ | refine blk_drew ?_ | refine blk_alloc ?_ _)); refine blk_put (cs := #[.int .i64 0, .int .i64 0, .int .i64 0, .int .i64 0]) ?_ 0 _ rfl; (with_reducible repeat (first | refine blk_drewN ?_ _ | refine blk_drew ?_ | refine blk_alloc ?_ _)); exact BK209.out) NB209_0.out (by simp)); replace HK := Aside0.mk (KeepBut.trans Z101 hk (.inl rfl)); replace HB := Aside0.mk hb; replace HI0 := Aside0.mk hi; clear hb hk hi; (try clear ho0); obtain ⟨Ao10, co10, eo10⟩ := Kd.R_slice HO212.out; subst eo10))
 (try simp only [Act.put, List.setIfInBounds_toArray, List.set_cons_zero, List.set_cons_succ])
 go_cut [] (fun wc => ∃ (kq : Nat) (x1001_2 : Int) (x1002_2 : Int) (x210000_2 : Int) (x210001_2 : Int) (x210002_2 : Int) (x210003_2 : Int), Aside0 (spec_l1Cur_circle.j0 kq s0_0 x1001_2 x1002_2 x210000_2 x210001_2 x210002_2 x210003_2 = some (r1, r2, r3, r4, r5, r6)) ∧ Aside0 (kq ≤ k) ∧ Aside0 (wc.heap[gb208]? = some (.cells #[.int .i64 0, .int .i64 0, .int .i64 0, .int .i64 0] 25 (0, 0))) ∧ Aside0 (wc.heap[gb209]? = some (.cells #[.int .i64 x210000_2, .int .i64 x210001_2, .int .i64 x210002_2, .int .i64 x210003_2] 25 (0, 0))) ∧ Aside0 (IsS42 w0 wc g s0_0 x1001_2 x1002_2) ∧ Aside0 (KeepBut w wc g none) ∧ Aside0 (Below w0.heap.size w0 wc))
 case first =>
  have H := HC3.out
  clear HC3
  by_cases c11 : (t210.length : Int) > 0
  ·
   rw [if_pos c11] at H
   have c11b0 : decide (0 < (t210.length : Int)) = true := decide_eq_true c11
   have c11b1 : decide (0 < t210.length) = true := decide_eq_true (by omega)
   clear c11
   (first | rw [c11b0] | (simp only [i64_w, i32_w]; rw [c11b0]) | rw [c11b1] | skip)
   replace H := Option.bind_eq_some_iff.mp H
   obtain ⟨⟨t215, t216, t217⟩, A120, H⟩ := H
   replace H : (if 0 ≤ t215 then (if t215 < (t210.length : Int) then (spec_l1Cur_circle.j0 k s0_0 t216 t217 ((rd_T25 t210 t215).f0) ((rd_T25 t210 t215).f1) ((rd_T25 t210 t215).f2) ((rd_T25 t210 t215).f3)) else (none)) else (none)) = some (r1, r2, r3, r4, r5, r6) := H
   have A12 := Aside0.mk A120
   clear A120
   by_cases c13 : 0 ≤ t215
   ·
    rw [if_pos c13] at H
    have c13b0 : decide (0 ≤ t215) = true := decide_eq_true c13
    clear c13
    by_cases c14 : t215 < (t210.length : Int)
    ·
     rw [if_pos c14] at H
     have c14b0 : decide (t215 < (t210.length : Int)) = true := decide_eq_true c14
     clear c14
     have H' := Aside0.mk H
     clear H
     go_wp2_with (first | ((with_reducible refine gate_callee (f := 21) rfl ?_); refine goesN_ 21 (some 15) Try.func21 #[.pointer (some ⟨g, 0, none⟩), .int .i64 (t210.length : Int)] ?_; (with_reducible refine (spec_l1Cur_pick.calls g s0_0 t213 t214 (t210.length : Int) t215 t216 t217 w0 _ ?side1 ?side2 A12.out).mono ?_); (case side1 => repeat (first | (with_reducible first | exact HI0.out | apply IsS42.alloc | apply IsS42.drewN | apply IsS42.drew | apply IsS42.set_1 | apply IsS42.set_2 | refine IsS42.far ?_ NB0_208.out _ | refine IsS42.far ?_ NB0_209.out _) | exact HI0.out)); (case side2 => repeat (first | (with_reducible first | exact HB.out | apply below_alloc | apply pw_below_drewN | apply below_drew1 | refine below_set ?_ (IsS42.ge HI0.out) | refine below_set ?_ GE208.out | refine below_set ?_ GE209.out) | exact HB.out)); rintro e w15 ⟨rfl, hi, hb, hk⟩; refine ⟨_, rfl, ?_⟩; replace BK208 := Aside0.mk (KeepBut.blk hk (g' := gb208) (o := .cells #[.int .i64 0, .int .i64 0, .int .i64 0, .int .i64 0] 25 (0, 0)) Z68 NB208_0.out (by simp)); replace BK209 := Aside0.mk (KeepBut.blk hk (g' := gb209) (o := .cells #[.int .i64 0, .int .i64 0, .int .i64 1, .int .i64 0] 25 (0, 0)) Z69 NB209_0.out (by simp)); replace HO212 := Aside0.mk (Kd.R_mono (Kd.R_keep (IsS42.apart (show IsS42 w0 _ g s0_0 t213 t214 from by repeat (first | (with_reducible first | exact HI0.out | apply IsS42.alloc | apply IsS42.drewN | apply IsS42.drew | apply IsS42.set_1 | apply IsS42.set_2 | refine IsS42.far ?_ NB0_208.out _ | refine IsS42.far ?_ NB0_209.out _) | exact HI0.out)) (by (with_reducible repeat (first | apply Kd.R_alloc | apply Kd.R_drewN | apply Kd.R_drew)); exact HO212.out) (by decide)) hk (fun _ h => h.2)) (fun _ h => h.1)); replace HK := Aside0.mk (KeepBut.trans Z101 hk (.inl rfl)); replace HB := Aside0.mk hb; replace HI0 := Aside0.mk hi; clear hb hk hi; have p218 : 0 ≤ (t215 : Int) := of_decide_eq_true Z90; have q218 : t215 < (t210.length : Int) := of_decide_eq_true Z90; obtain ⟨ad218, e218, hx218_0, hx218_1, hx218_2, hx218_3⟩ := at_T25 (Kd.R_reads' HO212.out).2.2 t215 p218 q218; cases e218; replace p218 := eq_true p218; replace q218 := eq_true q218; have hnb16 := NB209_208.out; have hnc16 := NB208_209.out; have hnb17 := NB209_0.out; have hnc17 := NB0_209.out; obtain ⟨_, _, _, _, _, _, _, _⟩ := cz4_ BK209))
     go_meet
     case rel => exact ⟨_, (t216), (t217), ((rd_T25 t210 t215).f0), ((rd_T25 t210 t215).f1), ((rd_T25 t210 t215).f2), ((rd_T25 t210 t215).f3), H', ⟨Z27⟩, ⟨Z47⟩, ⟨(by (with_reducible repeat (first | refine blk_drewN ?_ _ | refine blk_drew ?_ | refine blk_alloc ?_ _)); refine blk_put (cs := #[.int .i64 ((rd_T25 t210 t215).f0), .int .i64 ((rd_T25 t210 t215).f1), .int .i64 ((rd_T25 t210 t215).f2), .int .i64 0]) ?_ 3 _ rfl; (with_reducible repeat (first | refine blk_drewN ?_ _ | refine blk_drew ?_ | refine blk_alloc ?_ _)); refine blk_put (cs := #[.int .i64 ((rd_T25 t210 t215).f0), .int .i64 ((rd_T25 t210 t215).f1), .int .i64 1, .int .i64 0]) ?_ 2 _ rfl; (with_reducible repeat (first | refine blk_drewN ?_ _ | refine blk_drew ?_ | refine blk_alloc ?_ _)); refine blk_put (cs := #[.int .i64 ((rd_T25 t210 t215).f0), .int .i64 0, .int .i64 1, .int .i64 0]) ?_ 1 _ rfl; (with_reducible repeat (first | refine blk_drewN ?_ _ | refine blk_drew ?_ | refine blk_alloc ?_ _)); refine blk_put (cs := #[.int .i64 0, .int .i64 0, .int .i64 1, .int .i64 0]) ?_ 0 _ rfl; (with_reducible repeat (first | refine blk_drewN ?_ _ | refine blk_drew ?_ | refine blk_alloc ?_ _)); exact BK209.out)⟩, ⟨Z85⟩, ⟨Z101⟩, ⟨Z84⟩⟩
    ·
     rw [if_neg c14] at H
     exact absurd H (by simp)
   ·
    rw [if_neg c13] at H
    exact absurd H (by simp)
  ·
   rw [if_neg c11] at H
   have c11b0 : decide (0 < (t210.length : Int)) = false := decide_eq_false c11
   have c11b1 : decide (0 < t210.length) = false := decide_eq_false (by omega)
   clear c11
   (first | rw [c11b0] | (simp only [i64_w, i32_w]; rw [c11b0]) | rw [c11b1] | skip)
   have H' := Aside0.mk H
   clear H
   go_wp2
   go_meet
   case rel => exact ⟨_, (t213), (t214), (0), (0), (1), (0), H', ⟨Z27⟩, ⟨Z68⟩, ⟨Z69⟩, ⟨Z85⟩, ⟨Z101⟩, ⟨Z84⟩⟩
 case rest =>
  clear HC3
  try clear c1
  try clear c2
  try clear p2
  try clear q2
  try clear hx2
  try clear c6
  try clear c7
  try clear c11
  try clear c11b0
  try clear c11b1
  try clear c13
  try clear c13b0
  try clear c14
  try clear c14b0
  try clear c16
  try clear c17
  try clear hcz18_0
  try clear hcz18_1
  try clear hcz18_2
  try clear hcz18_3
  try clear hcz8_0
  try clear hcz8_1
  try clear hcz8_2
  try clear hcz8_3
  try clear hfz18_0
  try clear hfz18_1
  try clear hfz18_2
  try clear hfz18_3
  try clear hfz8_0
  try clear hfz8_1
  try clear hfz8_2
  try clear hfz8_3
  try clear hx218_0
  try clear hx218_1
  try clear hx218_2
  try clear hx218_3
  try clear p218
  try clear q218
  obtain ⟨kq, x1001_2, x1002_2, x210000_2, x210001_2, x210002_2, x210003_2, HA, HJ2, BK208, BK209, HI0, HK, HB⟩ := hcut
  cases kq with
  | zero => exact absurd HA.out (by simp [spec_l1Cur_circle.j0])
  | succ kj2 =>
   have H := HA.out
   clear HA
   simp only [spec_l1Cur_circle.j0] at H
   replace H := Option.bind_eq_some_iff.mp H
   obtain ⟨⟨t219, t220, t221⟩, A190, H⟩ := H
   replace H : (if t219 = 0 then ((spec_l1Cur_among.f s0_0 t220 t221 (([1, (-1), 1000000] : List Int))).bind fun bt225 => (some (wrap64 (x210000_2 + bt225.1), x210001_2, x210002_2, x210003_2, bt225.2.1, bt225.2.2))) else (if t219 = 1 then (some (1000000, 0, 0, 1, t220, t221)) else (if t219 = 2 then ((spec_l1Cur_among.f s0_0 t220 t221 (([(-9223372036854775808), 4611686018427387904] : List Int))).bind fun bt231 => (some (bt231.1, 2, 0, 0, bt231.2.1, bt231.2.2))) else (some (x210000_2, x210001_2, x210002_2, x210003_2, t220, t221))))) = some (r1, r2, r3, r4, r5, r6) := H
   have A19 := Aside0.mk A190
   clear A190
   by_cases c20 : t219 = 0
   ·
    rw [if_pos c20] at H
    have c20b0 : (t219 == 0) = true := beq_iff_eq.mpr c20
    have c20b1 : (t219 != 0) = false := bne_eq_false_iff_eq.mpr c20
    clear c20
    obtain ⟨y222, hy222⟩ : ∃ y_ : List Int, y_ = (([1, (-1), 1000000] : List Int)) := ⟨_, rfl⟩
    replace H : ((spec_l1Cur_among.f s0_0 t220 t221 y222).bind fun bt225 => (some (wrap64 (x210000_2 + bt225.1), x210001_2, x210002_2, x210003_2, bt225.2.1, bt225.2.2))) = some (r1, r2, r3, r4, r5, r6) := by first | (rw [hy222]; with_reducible exact H) | (have H2_ := (Option.bind_some _ _).symm.trans H; rw [hy222]; with_reducible exact H2_) | (have H2_ := (Option.bind_some _ _).symm.trans H; with_reducible exact H2_) | with_reducible exact H | (rw [hy222]; exact H) | exact H
    have Ny222 := Aside0.mk hy222
    clear hy222
    replace H := Option.bind_eq_some_iff.mp H
    obtain ⟨⟨t225, t226, t227⟩, A210, H⟩ := H
    replace H : (some (wrap64 (x210000_2 + t225), x210001_2, x210002_2, x210003_2, t226, t227)) = some (r1, r2, r3, r4, r5, r6) := H
    have A21 := Aside0.mk A210
    clear A210
    simp only [Option.some.injEq, Prod.mk.injEq] at H
    obtain ⟨rfl, rfl, rfl, rfl, rfl, rfl⟩ := H
    try go_wp2_with (first | ((with_reducible refine gate_callee (f := 21) rfl ?_); refine goesN_ 21 (some 19) Try.func21 #[.pointer (some ⟨g, 0, none⟩), .int .i64 16] ?_; (with_reducible refine (spec_l1Cur_pick.calls g s0_0 x1001_2 x1002_2 16 t219 t220 t221 w0 _ ?side1 ?side2 A19.out).mono ?_); (case side1 => repeat (first | (with_reducible first | exact HI0.out | apply IsS42.alloc | apply IsS42.drewN | apply IsS42.drew | apply IsS42.set_1 | apply IsS42.set_2 | refine IsS42.far ?_ NB0_208.out _ | refine IsS42.far ?_ NB0_209.out _) | exact HI0.out)); (case side2 => repeat (first | (with_reducible first | exact HB.out | apply below_alloc | apply pw_below_drewN | apply below_drew1 | refine below_set ?_ (IsS42.ge HI0.out) | refine below_set ?_ GE208.out | refine below_set ?_ GE209.out) | exact HB.out)); rintro e w22 ⟨rfl, hi, hb, hk⟩; refine ⟨_, rfl, ?_⟩; replace BK208 := Aside0.mk (KeepBut.blk hk (g' := gb208) (o := .cells #[.int .i64 0, .int .i64 0, .int .i64 0, .int .i64 0] 25 (0, 0)) Z68 NB208_0.out (by simp)); replace BK209 := Aside0.mk (KeepBut.blk hk (g' := gb209) (o := .cells #[.int .i64 x210000_2, .int .i64 x210001_2, .int .i64 x210002_2, .int .i64 x210003_2] 25 (0, 0)) Z69 NB209_0.out (by simp)); replace HK := Aside0.mk (KeepBut.trans Z101 hk (.inl rfl)); replace HB := Aside0.mk hb; replace HI0 := Aside0.mk hi; clear hb hk hi))
    have n0_ := Aside0.mk (blk_drew BK208.out)
    have n1_ := Aside0.mk (blk_drew BK209.out)
    have n2_ := Aside0.mk (IsS42.drew HI0.out)
    have n3_ := Aside0.mk (keep_drew HK.out)
    have n4_ := Aside0.mk (below_drew1 HB.out)
    clear BK208
    clear BK209
    clear HI0
    clear HK
    clear HB
    have BK208 := n0_
    have BK209 := n1_
    have HI0 := n2_
    have HK := n3_
    have HB := n4_
    clear n0_ n1_ n2_ n3_ n4_
    refine start_ (n := 8) (S := fun w' => w'.cell? ⟨gb209, 0, none⟩ = some (.int .i64 x210000_2) ∧ w'.cell? ⟨gb209, 1, none⟩ = some (.int .i64 x210001_2) ∧ w'.cell? ⟨gb209, 2, none⟩ = some (.int .i64 x210002_2) ∧ w'.cell? ⟨gb209, 3, none⟩ = some (.int .i64 x210003_2)) (ds := [7]) #[false, false, false, false, false, false, false, false] Z59 rfl rfl ⟨(blk_cell BK209.out 0).trans rfl, (blk_cell BK209.out 1).trans rfl, (blk_cell BK209.out 2).trans rfl, (blk_cell BK209.out 3).trans rfl⟩ (fun hHeld => ?_); refine with_tabW spec_l1Cur_circle.tab7 spec_l1Cur_circle.bits7 (fun HT_ HW_ => ?_)
    generalize w22.drew = w23 at BK208 BK209 HI0 HK HB hHeld ⊢
    refine pure_ (i := 0) (N := some 22) (v := ?_) (a' := ?_) #[true, false, false, false, false, false, false, false] rfl rfl (any_of HT_.out Z59) (fun _ _ _ h => h) (Or.inl ⟨(by rfl), ?_⟩) ?_ ?_
    rotate_left
    ·
     intro w'
     go_simp
     with_reducible rfl
    rotate_left
    ·
     simp only [Act.put, List.setIfInBounds_toArray, List.set_cons_zero, List.set_cons_succ, i64_w, i32_w]
     rfl
    refine pure_ (i := 2) (N := some 24) (v := ?_) (a' := ?_) #[true, false, true, false, false, false, false, false] rfl rfl (any_of HT_.out Z59) (fun _ _ _ h => h) (Or.inl ⟨(by rfl), ?_⟩) ?_ ?_
    rotate_left
    ·
     intro w'
     go_simp
     with_reducible rfl
    rotate_left
    ·
     simp only [Act.put, List.setIfInBounds_toArray, List.set_cons_zero, List.set_cons_succ, i64_w, i32_w]
     rfl
    refine take_ (i := 1) (N := some 23) (v := ?_) (a' := ?_) #[true, true, true, false, false, false, false, false] rfl rfl (take_ofW HT_.out HW_.out Z59) (fun _ _ _ h => h) (Or.inl ⟨(by rfl), ?_⟩) hHeld ?_ ?_
    rotate_left
    ·
     rintro w' ⟨s0, s1, s2, s3⟩
     go_simp
     with_reducible rfl
    rotate_left
    ·
     simp only [Act.put, List.setIfInBounds_toArray, List.set_cons_zero, List.set_cons_succ, i64_w, i32_w]
     rfl
    refine one_ (i := 3) (N := some 25) #[true, true, true, true, false, false, false, false] rfl rfl (one_of HT_.out Z59) (by decide) (fun K hK => ?_)
    refine Kd.R_lit_step (Kd.int .i64) _ 3 ?hg (N := 25) ?hd (xs := ([1, (-1), 1000000] : List Int)) (inner := [.int .i64 1, .int .i64 (-1), .int .i64 1000000]) (ok := fun _ => True) (okp := fun _ => True) ?hr ?hp (fun _ hk => hk) trivial (Below.refl _ _) (Nat.le_refl _) (by simp) ?_; (case hd => rfl); (case hg => rfl); (case hr => first | (go_simp; done) | (go_simp; rfl)); (case hp => exact (Reps.one (show Kd.M (Kd.int .i64) _ _ _ 1 [.int .i64 1] from rfl) (Reps.one (show Kd.M (Kd.int .i64) _ _ _ (-1) [.int .i64 (-1)] from rfl) (Reps.one (show Kd.M (Kd.int .i64) _ _ _ 1000000 [.int .i64 1000000] from rfl) (Reps.none _ _)))))
    intro v223 w24 ho25 hb hg_ hnew_
    clear hg_ hnew_
    (first | rw [← Ny222.out] at ho25 | (simp only [Int.reduceToNat] at ho25; rw [← Ny222.out] at ho25))
    have n0_ := Aside0.mk (Kd.R_lower ho25 (keep_size (w := w) (g := g) (row := none) Z101))
    have n1_ := Aside0.mk (blk_below (g := gb208) (o := .cells #[.int .i64 0, .int .i64 0, .int .i64 0, .int .i64 0] 25 (0, 0)) Z68 hb)
    have n2_ := Aside0.mk (blk_below (g := gb209) (o := .cells #[.int .i64 x210000_2, .int .i64 x210001_2, .int .i64 x210002_2, .int .i64 x210003_2] 25 (0, 0)) Z69 hb)
    have n3_ := Aside0.mk (IsS42.below Z85 hb)
    have n4_ := Aside0.mk (KeepBut.trans Z101 (KeepBut.of_below hb g none) (.inl rfl))
    have n5_ := Aside0.mk (below_step Z84 hb)
    clear BK208
    clear BK209
    clear HI0
    clear HK
    clear HB
    have HO224 := n0_
    have BK208 := n1_
    have BK209 := n2_
    have HI0 := n3_
    have HK := n4_
    have HB := n5_
    clear n0_ n1_ n2_ n3_ n4_ n5_
    clear hb ho25
    obtain ⟨Ao26, co26, eo26⟩ := Kd.R_slice HO224.out
    (first | subst eo26 | (injection eo26 with f1_ f2_ f3_; have f4_ := f1_.symm; have f5_ := f3_.symm; clear f1_ f2_ f3_; subst f4_; subst f5_))
    refine hK.out _ _ ⟨(blk_cell BK209.out 0).trans rfl, (blk_cell BK209.out 1).trans rfl, (blk_cell BK209.out 2).trans rfl, (blk_cell BK209.out 3).trans rfl⟩ (fun hHeld => ?_)
    clear hK K
    refine norm_ (a' := ?_) ?_ ?_
    rotate_left
    ·
     show Act.put _ (some 25) _ = _
     simp only [Act.put, List.setIfInBounds_toArray, List.set_cons_zero, List.set_cons_succ, i64_w, i32_w]
     rfl
    refine one_ (i := 4) (N := some 26) #[true, true, true, true, true, false, false, false] rfl rfl (one_of HT_.out Z59) (by decide) (fun K hK => ?_)
    refine goes_ Try.func27 Z59 rfl #[.pointer (some ⟨g, 0, none⟩), .slice Ao26 y222.length co26] (by rfl) rfl rfl (by (try simp only [List.map_toArray, List.map_cons, List.map_nil]); first | done | rfl | (simp only [List.length_drop, List.length_take]; rfl)) ?_
    with_reducible refine (spec_l1Cur_among.calls g s0_0 t220 t221 _ _ y222 t225 t226 t227 w0 _ ?side1 ?side2 ?side3 ?side4 ?side5 A21.out).mono ?_
    (case side1 => repeat (first | (with_reducible first | exact HI0.out | apply IsS42.alloc | apply IsS42.drewN | apply IsS42.drew | apply IsS42.set_1 | apply IsS42.set_2 | refine IsS42.far ?_ NB0_208.out _ | refine IsS42.far ?_ NB0_209.out _) | exact HI0.out))
    (case side2 => repeat (first | (with_reducible first | exact HB.out | apply below_alloc | apply pw_below_drewN | apply below_drew1 | refine below_set ?_ (IsS42.ge HI0.out) | refine below_set ?_ GE208.out | refine below_set ?_ GE209.out) | exact HB.out))
    (case side3 => repeat (first | exact (Kd.R_reads' HO224.out).2.2 | (with_reducible refine Kd.C_alloc ?_ _) | (with_reducible refine Kd.C_drewN ?_ _) | (with_reducible refine Kd.C_drew ?_)))
    (case side4 => exact (Kd.R_reads' HO224.out).2.1)
    (case side5 => exact far_slice (IsS42.own_ne HI0.out HO224.out (by decide)))
    rintro e w27 ⟨rfl, hi, hb, hk⟩
    refine ⟨_, rfl, ?_⟩
    have n0_ := Aside0.mk (KeepBut.blk hk (g' := gb208) (o := .cells #[.int .i64 0, .int .i64 0, .int .i64 0, .int .i64 0] 25 (0, 0)) Z68 NB208_0.out (by simp))
    have n1_ := Aside0.mk (KeepBut.blk hk (g' := gb209) (o := .cells #[.int .i64 x210000_2, .int .i64 x210001_2, .int .i64 x210002_2, .int .i64 x210003_2] 25 (0, 0)) Z69 NB209_0.out (by simp))
    have n2_ := Aside0.mk (Kd.R_mono (Kd.R_keep (IsS42.apart (show IsS42 w0 _ g s0_0 t220 t221 from by repeat (first | (with_reducible first | exact HI0.out | apply IsS42.alloc | apply IsS42.drewN | apply IsS42.drew | apply IsS42.set_1 | apply IsS42.set_2 | refine IsS42.far ?_ NB0_208.out _ | refine IsS42.far ?_ NB0_209.out _) | exact HI0.out)) (by (with_reducible repeat (first | apply Kd.R_alloc | apply Kd.R_drewN | apply Kd.R_drew)); exact HO224.out) (by decide)) hk (fun _ h => h.2)) (fun _ h => h.1))
    have n3_ := Aside0.mk (KeepBut.trans Z101 hk (.inl rfl))
    have n4_ := Aside0.mk (hb)
    have n5_ := Aside0.mk (hi)
    clear BK208
    clear BK209
    clear HO224
    clear HK
    clear HB
    clear HI0
    have BK208 := n0_
    have BK209 := n1_
    have HO224 := n2_
    have HK := n3_
    have HB := n4_
    have HI0 := n5_
    clear n0_ n1_ n2_ n3_ n4_ n5_
    (try clear hb)
    (try clear hb2)
    (try clear hk)
    (try clear hi)
    refine hK.out _ _ ⟨(blk_cell BK209.out 0).trans rfl, (blk_cell BK209.out 1).trans rfl, (blk_cell BK209.out 2).trans rfl, (blk_cell BK209.out 3).trans rfl⟩ (fun hHeld => ?_)
    clear hK K
    refine norm_ (a' := ?_) ?_ ?_
    rotate_left
    ·
     show Act.put _ (some 26) _ = _
     simp only [Act.put, List.setIfInBounds_toArray, List.set_cons_zero, List.set_cons_succ, i64_w, i32_w]
     rfl
    refine pure_ (i := 5) (N := some 27) (v := ?_) (a' := ?_) #[true, true, true, true, true, true, false, false] rfl rfl (any_of HT_.out Z59) (fun _ _ _ h => h) (Or.inl ⟨(by rfl), ?_⟩) ?_ ?_
    rotate_left
    ·
     intro w'
     go_simp
     with_reducible rfl
    rotate_left
    ·
     simp only [Act.put, List.setIfInBounds_toArray, List.set_cons_zero, List.set_cons_succ, i64_w, i32_w]
     rfl
    refine pure_ (i := 6) (N := some 28) (v := ?_) (a' := ?_) #[true, true, true, true, true, true, true, false] rfl rfl (any_of HT_.out Z59) (fun _ _ _ h => h) (Or.inl ⟨(by rfl), ?_⟩) ?_ ?_
    rotate_left
    ·
     intro w'
     go_simp
     with_reducible rfl
    rotate_left
    ·
     simp only [Act.put, List.setIfInBounds_toArray, List.set_cons_zero, List.set_cons_succ, i64_w, i32_w]
     rfl
    refine last_ (i := 7) (N := none) #[true, true, true, true, true, true, true, true] rfl rfl (one_of HT_.out Z59) (by decide) (fun K hK => ?_)
    have hs28 : w27.cell? ⟨gb209, 0, none⟩ = some (.int .i64 x210000_2) := (blk_cell BK209.out 0).trans rfl
    have hfs28 := blk_frozen BK209.out 0
    have hns28_0 := NB208_209.out
    have hms28_0 := NB209_208.out
    refine skip_ (w1 := ?_) (by rfl) rfl ?_ ?_
    rotate_left
    ·
     go_simp
     rfl
    refine hK.out _ _ ?_
    clear hK K
    refine done_ (done_of HT_.out Z59) ?_
    have hnb29 := NB209_208.out
    have hnc29 := NB208_209.out
    have hnb30 := NB209_0.out
    have hnc30 := NB0_209.out
    have hcz31_0 : w27.cell? ⟨gb209, 0, none⟩ = some (.int .i64 x210000_2) := (blk_cell BK209.out 0).trans rfl
    have hcz31_1 : w27.cell? ⟨gb209, 1, none⟩ = some (.int .i64 x210001_2) := (blk_cell BK209.out 1).trans rfl
    have hcz31_2 : w27.cell? ⟨gb209, 2, none⟩ = some (.int .i64 x210002_2) := (blk_cell BK209.out 2).trans rfl
    have hcz31_3 : w27.cell? ⟨gb209, 3, none⟩ = some (.int .i64 x210003_2) := (blk_cell BK209.out 3).trans rfl
    have hfz31_0 := blk_frozen BK209.out 0
    have hfz31_1 := blk_frozen BK209.out 1
    have hfz31_2 := blk_frozen BK209.out 2
    have hfz31_3 := blk_frozen BK209.out 3
    have hnb32 := NB208_0.out
    have hnc32 := NB0_208.out
    have hcz33_0 : w27.cell? ⟨gb208, 0, none⟩ = some (.int .i64 0) := (blk_cell BK208.out 0).trans rfl
    have hcz33_1 : w27.cell? ⟨gb208, 1, none⟩ = some (.int .i64 0) := (blk_cell BK208.out 1).trans rfl
    have hcz33_2 : w27.cell? ⟨gb208, 2, none⟩ = some (.int .i64 0) := (blk_cell BK208.out 2).trans rfl
    have hcz33_3 : w27.cell? ⟨gb208, 3, none⟩ = some (.int .i64 0) := (blk_cell BK208.out 3).trans rfl
    have hfz33_0 := blk_frozen BK208.out 0
    have hfz33_1 := blk_frozen BK208.out 1
    have hfz33_2 := blk_frozen BK208.out 2
    have hfz33_3 := blk_frozen BK208.out 3
    try go_wp2
    refine bodyPost_ret (results_cell_row rfl _ _ gb208 25 #[.int .i64 (wrap64 (x210000_2 + t225)), .int .i64 x210001_2, .int .i64 x210002_2, .int .i64 x210003_2] (0, 0) _ rfl (by (with_reducible repeat (first | refine blk_drewN ?_ _ | refine blk_drew ?_ | refine blk_alloc ?_ _)); refine blk_put (cs := #[.int .i64 (wrap64 (x210000_2 + t225)), .int .i64 x210001_2, .int .i64 x210002_2, .int .i64 0]) ?_ 3 _ rfl; (with_reducible repeat (first | refine blk_drewN ?_ _ | refine blk_drew ?_ | refine blk_alloc ?_ _)); refine blk_put (cs := #[.int .i64 (wrap64 (x210000_2 + t225)), .int .i64 x210001_2, .int .i64 0, .int .i64 0]) ?_ 2 _ rfl; (with_reducible repeat (first | refine blk_drewN ?_ _ | refine blk_drew ?_ | refine blk_alloc ?_ _)); refine blk_put (cs := #[.int .i64 (wrap64 (x210000_2 + t225)), .int .i64 0, .int .i64 0, .int .i64 0]) ?_ 1 _ rfl; (with_reducible repeat (first | refine blk_drewN ?_ _ | refine blk_drew ?_ | refine blk_alloc ?_ _)); refine blk_put (cs := #[.int .i64 0, .int .i64 0, .int .i64 0, .int .i64 0]) ?_ 0 _ rfl; (with_reducible repeat (first | refine blk_drewN ?_ _ | refine blk_drew ?_ | refine blk_alloc ?_ _)); refine blk_far ?_ NB208_209.out _; (with_reducible repeat (first | refine blk_drewN ?_ _ | refine blk_drew ?_ | refine blk_alloc ?_ _)); exact BK208.out) Try.underlying25 rfl Z59) rfl ?_
    exact ⟨Z106, Z85, Z84, Z101⟩
   ·
    rw [if_neg c20] at H
    have c20b0 : (t219 == 0) = false := beq_eq_false_iff_ne.mpr c20
    have c20b1 : (t219 != 0) = true := bne_iff_ne.mpr c20
    by_cases c34 : t219 = 1
    ·
     rw [if_pos c34] at H
     have c34b0 : (t219 == 1) = true := beq_iff_eq.mpr c34
     have c34b1 : (t219 != 1) = false := bne_eq_false_iff_eq.mpr c34
     clear c34
     simp only [Option.some.injEq, Prod.mk.injEq] at H
     obtain ⟨rfl, rfl, rfl, rfl, rfl, rfl⟩ := H
     go_wp2_with (first | ((with_reducible refine gate_callee (f := 21) rfl ?_); refine goesN_ 21 (some 19) Try.func21 #[.pointer (some ⟨g, 0, none⟩), .int .i64 16] ?_; (with_reducible refine (spec_l1Cur_pick.calls g s0_0 x1001_2 x1002_2 16 t219 t220 t221 w0 _ ?side1 ?side2 A19.out).mono ?_); (case side1 => repeat (first | (with_reducible first | exact HI0.out | apply IsS42.alloc | apply IsS42.drewN | apply IsS42.drew | apply IsS42.set_1 | apply IsS42.set_2 | refine IsS42.far ?_ NB0_208.out _ | refine IsS42.far ?_ NB0_209.out _) | exact HI0.out)); (case side2 => repeat (first | (with_reducible first | exact HB.out | apply below_alloc | apply pw_below_drewN | apply below_drew1 | refine below_set ?_ (IsS42.ge HI0.out) | refine below_set ?_ GE208.out | refine below_set ?_ GE209.out) | exact HB.out)); rintro e w35 ⟨rfl, hi, hb, hk⟩; refine ⟨_, rfl, ?_⟩; replace BK208 := Aside0.mk (KeepBut.blk hk (g' := gb208) (o := .cells #[.int .i64 0, .int .i64 0, .int .i64 0, .int .i64 0] 25 (0, 0)) Z68 NB208_0.out (by simp)); replace BK209 := Aside0.mk (KeepBut.blk hk (g' := gb209) (o := .cells #[.int .i64 x210000_2, .int .i64 x210001_2, .int .i64 x210002_2, .int .i64 x210003_2] 25 (0, 0)) Z69 NB209_0.out (by simp)); replace HK := Aside0.mk (KeepBut.trans Z101 hk (.inl rfl)); replace HB := Aside0.mk hb; replace HI0 := Aside0.mk hi; clear hb hk hi; have hnb36 := NB209_208.out; have hnc36 := NB208_209.out; have hnb37 := NB209_0.out; have hnc37 := NB0_209.out; obtain ⟨_, _, _, _, _, _, _, _⟩ := cz4_ BK209; have hnb39 := NB208_0.out; have hnc39 := NB0_208.out; obtain ⟨_, _, _, _, _, _, _, _⟩ := cz4_ BK208))
     refine bodyPost_ret (results_cell_row rfl _ _ gb208 25 #[.int .i64 1000000, .int .i64 0, .int .i64 0, .int .i64 1] (0, 0) _ rfl (by (with_reducible repeat (first | refine blk_drewN ?_ _ | refine blk_drew ?_ | refine blk_alloc ?_ _)); refine blk_put (cs := #[.int .i64 1000000, .int .i64 0, .int .i64 0, .int .i64 0]) ?_ 3 _ rfl; (with_reducible repeat (first | refine blk_drewN ?_ _ | refine blk_drew ?_ | refine blk_alloc ?_ _)); refine blk_put (cs := #[.int .i64 1000000, .int .i64 0, .int .i64 0, .int .i64 0]) ?_ 2 _ rfl; (with_reducible repeat (first | refine blk_drewN ?_ _ | refine blk_drew ?_ | refine blk_alloc ?_ _)); refine blk_put (cs := #[.int .i64 1000000, .int .i64 0, .int .i64 0, .int .i64 0]) ?_ 1 _ rfl; (with_reducible repeat (first | refine blk_drewN ?_ _ | refine blk_drew ?_ | refine blk_alloc ?_ _)); refine blk_put (cs := #[.int .i64 0, .int .i64 0, .int .i64 0, .int .i64 0]) ?_ 0 _ rfl; (with_reducible repeat (first | refine blk_drewN ?_ _ | refine blk_drew ?_ | refine blk_alloc ?_ _)); refine blk_far ?_ NB208_209.out _; (with_reducible repeat (first | refine blk_drewN ?_ _ | refine blk_drew ?_ | refine blk_alloc ?_ _)); refine blk_far ?_ NB208_209.out _; (with_reducible repeat (first | refine blk_drewN ?_ _ | refine blk_drew ?_ | refine blk_alloc ?_ _)); refine blk_far ?_ NB208_209.out _; (with_reducible repeat (first | refine blk_drewN ?_ _ | refine blk_drew ?_ | refine blk_alloc ?_ _)); refine blk_far ?_ NB208_209.out _; (with_reducible repeat (first | refine blk_drewN ?_ _ | refine blk_drew ?_ | refine blk_alloc ?_ _)); exact BK208.out) Try.underlying25 rfl Z59) rfl ?_
     exact ⟨Z106, Z85, Z84, Z101⟩
    ·
     rw [if_neg c34] at H
     have c34b0 : (t219 == 1) = false := beq_eq_false_iff_ne.mpr c34
     have c34b1 : (t219 != 1) = true := bne_iff_ne.mpr c34
     by_cases c41 : t219 = 2
     ·
      rw [if_pos c41] at H
      have c41b0 : (t219 == 2) = true := beq_iff_eq.mpr c41
      have c41b1 : (t219 != 2) = false := bne_eq_false_iff_eq.mpr c41
      clear c41
      obtain ⟨y228, hy228⟩ : ∃ y_ : List Int, y_ = (([(-9223372036854775808), 4611686018427387904] : List Int)) := ⟨_, rfl⟩
      replace H : ((spec_l1Cur_among.f s0_0 t220 t221 y228).bind fun bt231 => (some (bt231.1, 2, 0, 0, bt231.2.1, bt231.2.2))) = some (r1, r2, r3, r4, r5, r6) := by first | (rw [hy228]; with_reducible exact H) | (have H2_ := (Option.bind_some _ _).symm.trans H; rw [hy228]; with_reducible exact H2_) | (have H2_ := (Option.bind_some _ _).symm.trans H; with_reducible exact H2_) | with_reducible exact H | (rw [hy228]; exact H) | exact H
      have Ny228 := Aside0.mk hy228
      clear hy228
      replace H := Option.bind_eq_some_iff.mp H
      obtain ⟨⟨t231, t232, t233⟩, A420, H⟩ := H
      replace H : (some (t231, 2, 0, 0, t232, t233)) = some (r1, r2, r3, r4, r5, r6) := H
      have A42 := Aside0.mk A420
      clear A420
      simp only [Option.some.injEq, Prod.mk.injEq] at H
      obtain ⟨rfl, rfl, rfl, rfl, rfl, rfl⟩ := H
      go_wp2_with (first | ((with_reducible refine gate_callee (f := 21) rfl ?_); refine goesN_ 21 (some 19) Try.func21 #[.pointer (some ⟨g, 0, none⟩), .int .i64 16] ?_; (with_reducible refine (spec_l1Cur_pick.calls g s0_0 x1001_2 x1002_2 16 t219 t220 t221 w0 _ ?side1 ?side2 A19.out).mono ?_); (case side1 => repeat (first | (with_reducible first | exact HI0.out | apply IsS42.alloc | apply IsS42.drewN | apply IsS42.drew | apply IsS42.set_1 | apply IsS42.set_2 | refine IsS42.far ?_ NB0_208.out _ | refine IsS42.far ?_ NB0_209.out _) | exact HI0.out)); (case side2 => repeat (first | (with_reducible first | exact HB.out | apply below_alloc | apply pw_below_drewN | apply below_drew1 | refine below_set ?_ (IsS42.ge HI0.out) | refine below_set ?_ GE208.out | refine below_set ?_ GE209.out) | exact HB.out)); rintro e w43 ⟨rfl, hi, hb, hk⟩; refine ⟨_, rfl, ?_⟩; replace BK208 := Aside0.mk (KeepBut.blk hk (g' := gb208) (o := .cells #[.int .i64 0, .int .i64 0, .int .i64 0, .int .i64 0] 25 (0, 0)) Z68 NB208_0.out (by simp)); replace BK209 := Aside0.mk (KeepBut.blk hk (g' := gb209) (o := .cells #[.int .i64 x210000_2, .int .i64 x210001_2, .int .i64 x210002_2, .int .i64 x210003_2] 25 (0, 0)) Z69 NB209_0.out (by simp)); replace HK := Aside0.mk (KeepBut.trans Z101 hk (.inl rfl)); replace HB := Aside0.mk hb; replace HI0 := Aside0.mk hi; clear hb hk hi) | ((with_reducible refine gate_dst (N := 35) rfl ?_); refine Kd.R_lit (Kd.int .i64) _ 3 ?hg (N := 35) ?hd (xs := ([(-9223372036854775808), 4611686018427387904] : List Int)) (inner := [.int .i64 (-9223372036854775808), .int .i64 4611686018427387904]) (ok := fun _ => True) (okp := fun _ => True) ?hr ?hp (fun _ hk => hk) trivial (Below.refl _ _) (Nat.le_refl _) (by simp) ?_; (case hd => rfl); (case hg => rfl); (case hr => first | (go_simp; done) | (go_simp; rfl)); (case hp => exact (Reps.one (show Kd.M (Kd.int .i64) _ _ _ (-9223372036854775808) [.int .i64 (-9223372036854775808)] from rfl) (Reps.one (show Kd.M (Kd.int .i64) _ _ _ 4611686018427387904 [.int .i64 4611686018427387904] from rfl) (Reps.none _ _)))); intro v229 w44 ho45 hb hg_ hnew_; clear hg_ hnew_; (first | rw [← Ny228.out] at ho45 | (simp only [Int.reduceToNat] at ho45; rw [← Ny228.out] at ho45)); have HO230 := Aside0.mk (Kd.R_lower ho45 (keep_size (w := w) (g := g) (row := none) Z101)); replace BK208 := bk_ BK208 hb; replace BK209 := bk_ BK209 hb; replace HK := Aside0.mk (KeepBut.trans Z101 (KeepBut.of_below hb g none) (.inl rfl)); replace HB := Aside0.mk (below_step Z84 hb); replace HI0 := Aside0.mk (IsS42.below Z85 hb); clear hb ho45; obtain ⟨Ao46, co46, eo46⟩ := Kd.R_slice HO230.out; subst eo46) | ((with_reducible refine gate_callee (f := 27) rfl ?_); refine goesN_ 27 (some 36) Try.func27 #[.pointer (some ⟨g, 0, none⟩), .slice Ao46 y228.length co46] ?_; (with_reducible refine (spec_l1Cur_among.calls g s0_0 t220 t221 _ _ y228 t231 t232 t233 w0 _ ?side1 ?side2 ?side3 ?side4 ?side5 A42.out).mono ?_); (case side1 => repeat (first | (with_reducible first | exact HI0.out | apply IsS42.alloc | apply IsS42.drewN | apply IsS42.drew | apply IsS42.set_1 | apply IsS42.set_2 | refine IsS42.far ?_ NB0_208.out _ | refine IsS42.far ?_ NB0_209.out _) | exact HI0.out)); (case side2 => repeat (first | (with_reducible first | exact HB.out | apply below_alloc | apply pw_below_drewN | apply below_drew1 | refine below_set ?_ (IsS42.ge HI0.out) | refine below_set ?_ GE208.out | refine below_set ?_ GE209.out) | exact HB.out)); (case side3 => repeat (first | exact (Kd.R_reads' HO230.out).2.2 | (with_reducible refine Kd.C_alloc ?_ _) | (with_reducible refine Kd.C_drewN ?_ _) | (with_reducible refine Kd.C_drew ?_))); (case side4 => exact (Kd.R_reads' HO230.out).2.1); (case side5 => exact far_slice (IsS42.own_ne HI0.out HO230.out (by decide))); rintro e w47 ⟨rfl, hi, hb, hk⟩; refine ⟨_, rfl, ?_⟩; replace BK208 := Aside0.mk (KeepBut.blk hk (g' := gb208) (o := .cells #[.int .i64 0, .int .i64 0, .int .i64 0, .int .i64 0] 25 (0, 0)) Z68 NB208_0.out (by simp)); replace BK209 := Aside0.mk (KeepBut.blk hk (g' := gb209) (o := .cells #[.int .i64 x210000_2, .int .i64 x210001_2, .int .i64 x210002_2, .int .i64 x210003_2] 25 (0, 0)) Z69 NB209_0.out (by simp)); replace HO230 := Aside0.mk (Kd.R_mono (Kd.R_keep (IsS42.apart (show IsS42 w0 _ g s0_0 t220 t221 from by repeat (first | (with_reducible first | exact HI0.out | apply IsS42.alloc | apply IsS42.drewN | apply IsS42.drew | apply IsS42.set_1 | apply IsS42.set_2 | refine IsS42.far ?_ NB0_208.out _ | refine IsS42.far ?_ NB0_209.out _) | exact HI0.out)) (by (with_reducible repeat (first | apply Kd.R_alloc | apply Kd.R_drewN | apply Kd.R_drew)); exact HO230.out) (by decide)) hk (fun _ h => h.2)) (fun _ h => h.1)); replace HK := Aside0.mk (KeepBut.trans Z101 hk (.inl rfl)); replace HB := Aside0.mk hb; replace HI0 := Aside0.mk hi; clear hb hk hi; have hnb48 := NB209_208.out; have hnc48 := NB208_209.out; have hnb49 := NB209_0.out; have hnc49 := NB0_209.out; obtain ⟨_, _, _, _, _, _, _, _⟩ := cz4_ BK209; have hnb51 := NB208_0.out; have hnc51 := NB0_208.out; obtain ⟨_, _, _, _, _, _, _, _⟩ := cz4_ BK208))
      refine bodyPost_ret (results_cell_row rfl _ _ gb208 25 #[.int .i64 t231, .int .i64 2, .int .i64 0, .int .i64 0] (0, 0) _ rfl (by (with_reducible repeat (first | refine blk_drewN ?_ _ | refine blk_drew ?_ | refine blk_alloc ?_ _)); refine blk_put (cs := #[.int .i64 t231, .int .i64 2, .int .i64 0, .int .i64 0]) ?_ 3 _ rfl; (with_reducible repeat (first | refine blk_drewN ?_ _ | refine blk_drew ?_ | refine blk_alloc ?_ _)); refine blk_put (cs := #[.int .i64 t231, .int .i64 2, .int .i64 0, .int .i64 0]) ?_ 2 _ rfl; (with_reducible repeat (first | refine blk_drewN ?_ _ | refine blk_drew ?_ | refine blk_alloc ?_ _)); refine blk_put (cs := #[.int .i64 t231, .int .i64 0, .int .i64 0, .int .i64 0]) ?_ 1 _ rfl; (with_reducible repeat (first | refine blk_drewN ?_ _ | refine blk_drew ?_ | refine blk_alloc ?_ _)); refine blk_put (cs := #[.int .i64 0, .int .i64 0, .int .i64 0, .int .i64 0]) ?_ 0 _ rfl; (with_reducible repeat (first | refine blk_drewN ?_ _ | refine blk_drew ?_ | refine blk_alloc ?_ _)); refine blk_far ?_ NB208_209.out _; (with_reducible repeat (first | refine blk_drewN ?_ _ | refine blk_drew ?_ | refine blk_alloc ?_ _)); refine blk_far ?_ NB208_209.out _; (with_reducible repeat (first | refine blk_drewN ?_ _ | refine blk_drew ?_ | refine blk_alloc ?_ _)); refine blk_far ?_ NB208_209.out _; (with_reducible repeat (first | refine blk_drewN ?_ _ | refine blk_drew ?_ | refine blk_alloc ?_ _)); refine blk_far ?_ NB208_209.out _; (with_reducible repeat (first | refine blk_drewN ?_ _ | refine blk_drew ?_ | refine blk_alloc ?_ _)); exact BK208.out) Try.underlying25 rfl Z59) rfl ?_
      exact ⟨Z106, Z85, Z84, Z101⟩
     ·
      rw [if_neg c41] at H
      have c41b0 : (t219 == 2) = false := beq_eq_false_iff_ne.mpr c41
      have c41b1 : (t219 != 2) = true := bne_iff_ne.mpr c41
      simp only [Option.some.injEq, Prod.mk.injEq] at H
      obtain ⟨rfl, rfl, rfl, rfl, rfl, rfl⟩ := H
      go_wp2_with (first | ((with_reducible refine gate_callee (f := 21) rfl ?_); refine goesN_ 21 (some 19) Try.func21 #[.pointer (some ⟨g, 0, none⟩), .int .i64 16] ?_; (with_reducible refine (spec_l1Cur_pick.calls g s0_0 x1001_2 x1002_2 16 t219 t220 t221 w0 _ ?side1 ?side2 A19.out).mono ?_); (case side1 => repeat (first | (with_reducible first | exact HI0.out | apply IsS42.alloc | apply IsS42.drewN | apply IsS42.drew | apply IsS42.set_1 | apply IsS42.set_2 | refine IsS42.far ?_ NB0_208.out _ | refine IsS42.far ?_ NB0_209.out _) | exact HI0.out)); (case side2 => repeat (first | (with_reducible first | exact HB.out | apply below_alloc | apply pw_below_drewN | apply below_drew1 | refine below_set ?_ (IsS42.ge HI0.out) | refine below_set ?_ GE208.out | refine below_set ?_ GE209.out) | exact HB.out)); rintro e w53 ⟨rfl, hi, hb, hk⟩; refine ⟨_, rfl, ?_⟩; replace BK208 := Aside0.mk (KeepBut.blk hk (g' := gb208) (o := .cells #[.int .i64 0, .int .i64 0, .int .i64 0, .int .i64 0] 25 (0, 0)) Z68 NB208_0.out (by simp)); replace BK209 := Aside0.mk (KeepBut.blk hk (g' := gb209) (o := .cells #[.int .i64 x210000_2, .int .i64 x210001_2, .int .i64 x210002_2, .int .i64 x210003_2] 25 (0, 0)) Z69 NB209_0.out (by simp)); replace HK := Aside0.mk (KeepBut.trans Z101 hk (.inl rfl)); replace HB := Aside0.mk hb; replace HI0 := Aside0.mk hi; clear hb hk hi; have hnb54 := NB209_208.out; have hnc54 := NB208_209.out; have hnb55 := NB209_0.out; have hnc55 := NB0_209.out; obtain ⟨_, _, _, _, _, _, _, _⟩ := cz4_ BK209; have hnb57 := NB208_0.out; have hnc57 := NB0_208.out; obtain ⟨_, _, _, _, _, _, _, _⟩ := cz4_ BK208))
      refine bodyPost_ret (results_cell_row rfl _ _ gb208 25 #[.int .i64 x210000_2, .int .i64 x210001_2, .int .i64 x210002_2, .int .i64 x210003_2] (0, 0) _ rfl (by (with_reducible repeat (first | refine blk_drewN ?_ _ | refine blk_drew ?_ | refine blk_alloc ?_ _)); refine blk_put (cs := #[.int .i64 x210000_2, .int .i64 x210001_2, .int .i64 x210002_2, .int .i64 0]) ?_ 3 _ rfl; (with_reducible repeat (first | refine blk_drewN ?_ _ | refine blk_drew ?_ | refine blk_alloc ?_ _)); refine blk_put (cs := #[.int .i64 x210000_2, .int .i64 x210001_2, .int .i64 0, .int .i64 0]) ?_ 2 _ rfl; (with_reducible repeat (first | refine blk_drewN ?_ _ | refine blk_drew ?_ | refine blk_alloc ?_ _)); refine blk_put (cs := #[.int .i64 x210000_2, .int .i64 0, .int .i64 0, .int .i64 0]) ?_ 1 _ rfl; (with_reducible repeat (first | refine blk_drewN ?_ _ | refine blk_drew ?_ | refine blk_alloc ?_ _)); refine blk_put (cs := #[.int .i64 0, .int .i64 0, .int .i64 0, .int .i64 0]) ?_ 0 _ rfl; (with_reducible repeat (first | refine blk_drewN ?_ _ | refine blk_drew ?_ | refine blk_alloc ?_ _)); exact BK208.out) Try.underlying25 rfl Z59) rfl ?_
      exact ⟨Z106, Z85, Z84, Z101⟩

end Go.Proofs.Ytkllcinoodfffaa.P
