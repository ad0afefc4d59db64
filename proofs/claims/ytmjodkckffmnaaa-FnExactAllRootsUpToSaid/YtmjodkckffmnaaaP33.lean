/- Written by a program of this session: for Go functions that a statement reaches, Lean functions with the same answers and the proofs that the calls come to them; conditions: none but the arguments' kinds. -/
import Derived.Test.YtmjodkckffmnaaaP0
import Derived.Test.YtmjodkckffmnaaaP2
import Derived.Test.YtmjodkckffmnaaaP3
import Derived.Test.YtmjodkckffmnaaaP6
import Derived.Test.YtmjodkckffmnaaaP7
import Derived.Test.YtmjodkckffmnaaaP9
import Derived.Test.YtmjodkckffmnaaaP14
import Derived.Test.YtmjodkckffmnaaaP27
import Derived.Test.YtmjodkckffmnaaaP30
import Derived.Test.YtmjodkckffmnaaaP31
import Derived.Test.YtmjodkckffmnaaaP32
namespace Go.Proofs.Ytmjodkckffmnaaa.P
open Go.RowKit Go.Proofs.YtmjodkckffmnaaaW.PrintWords Go.Proofs.YtmjodkckffmnaaaW.PrintLast Go.Proofs.YtmjodkckffmnaaaW.PrintMore
attribute [local go_sem] max2_int min2_int max_two min_two max_three min_three max_four min_four   -- for this text's walks alone
set_option linter.unusedVariables false
set_option linter.unusedSimpArgs false

/-! ### impl_rootsWith: function 97 -/
/-- What comes behind the loops: sorted, and of equal rows one. -/
def rootsTail (l : List (List Int)) : Option (List (List Int)) := (slices_SortFunc_int_int.f l).bind fun m => slices_CompactFunc_int_int.f m
mutual
def impl_rootsWith.l0 : Nat → Int → List (List Int) → Int → Option ((List (List Int)))
  | 0, _, _, _ => none
  | k + 1, x0, x3, x4 => if (wrap64 ((wrap64 (3 * x4)) * x4)) ≤ (wrap64 ((wrap64 (4 * x0)) * x0)) then (impl_rootsWith.l1 k x0 x3 x4 0) else (rootsTail x3)
def impl_rootsWith.l1 : Nat → Int → List (List Int) → Int → Int → Option ((List (List Int)))
  | 0, _, _, _, _ => none
  | k + 1, x0, x3, x4, x5 => if (wrap64 (2 * x5)) ≤ x4 then (if x4 = 0 then (none) else ((some (([wrap64 (-x0), wrap64 (x4 + x0), wrap64 ((wrap64 (Int.tdiv (wrap64 ((wrap64 (x0 * x0)) + (wrap64 (x5 * x5)))) x4)) + x0), wrap64 ((wrap64 ((wrap64 (x4 + (wrap64 (Int.tdiv (wrap64 ((wrap64 (x0 * x0)) + (wrap64 (x5 * x5)))) x4)))) + x0)) - (wrap64 (2 * x5)))] : List Int) : List Int)).bind fun y753 => (if (Int.tmod (wrap64 ((wrap64 (x0 * x0)) + (wrap64 (x5 * x5)))) x4) = 0 then (if (wrap64 (Int.tdiv (wrap64 ((wrap64 (x0 * x0)) + (wrap64 (x5 * x5)))) x4)) ≥ x4 then ((impl_IsQuad.f k y753).bind fun t756 => (if t756 = true then ((impl_isRoot.f k y753).bind fun t757 => (if t757 = true then ((impl_scale.f k y753).bind fun t758 => (if t758 = 1 then ((slices_Sort_int_int.f y753).bind fun t759 => (if x3.length < 5864062014805 then (impl_rootsWith.l1 k x0 (x3 ++ [t759]) x4 (wrap64 (x5 + 1))) else (none))) else (impl_rootsWith.l1 k x0 x3 x4 (wrap64 (x5 + 1))))) else (impl_rootsWith.l1 k x0 x3 x4 (wrap64 (x5 + 1))))) else (impl_rootsWith.l1 k x0 x3 x4 (wrap64 (x5 + 1))))) else (impl_rootsWith.l1 k x0 x3 x4 (wrap64 (x5 + 1)))) else (impl_rootsWith.l1 k x0 x3 x4 (wrap64 (x5 + 1)))))) else (impl_rootsWith.l0 k x0 x3 (wrap64 (x4 + 1)))
end
def impl_rootsWith.f (k : Nat) (a0 : Int) : Option ((List (List Int))) := impl_rootsWith.l0 k a0 (([] : List (List Int))) 1
theorem impl_rootsWith.mono_l : ∀ k, (∀ y0 y1 y2, LeO (impl_rootsWith.l0 k y0 y1 y2) (impl_rootsWith.l0 (k + 1) y0 y1 y2)) ∧ (∀ y0 y1 y2 y3, LeO (impl_rootsWith.l1 k y0 y1 y2 y3) (impl_rootsWith.l1 (k + 1) y0 y1 y2 y3))
  | 0 => ⟨fun _ _ _ r h => by simp [impl_rootsWith.l0] at h, fun _ _ _ _ r h => by simp [impl_rootsWith.l1] at h⟩
  | k + 1 => by
    obtain ⟨ih0, ih1⟩ := impl_rootsWith.mono_l k
    refine ⟨?_, ?_⟩
    · intro y0 y1 y2
      unfold impl_rootsWith.l0
      repeat' first
      | (with_reducible exact ih0 _ _ _)
      | (with_reducible exact ih1 _ _ _ _)
      | (with_reducible exact impl_IsQuad.mono _ _)
      | (with_reducible exact impl_isRoot.mono _ _)
      | (with_reducible exact impl_scale.mono _ _)
      | (with_reducible exact LeO.refl _)
      | (with_reducible exact LeO.none _)
      | (with_reducible refine LeO.ite ?_ ?_)
      | (with_reducible refine LeO.bind ?_ (fun _ => ?_))
      | exact ih0 _ _ _
      | exact ih1 _ _ _ _
      | exact impl_IsQuad.mono _ _
      | exact impl_isRoot.mono _ _
      | exact impl_scale.mono _ _
      | exact LeO.none _
      | refine LeO.ite ?_ ?_
      | refine LeO.bind ?_ (fun _ => ?_)
    · intro y0 y1 y2 y3
      unfold impl_rootsWith.l1
      repeat' first
      | (with_reducible exact ih0 _ _ _)
      | (with_reducible exact ih1 _ _ _ _)
      | (with_reducible exact impl_IsQuad.mono _ _)
      | (with_reducible exact impl_isRoot.mono _ _)
      | (with_reducible exact impl_scale.mono _ _)
      | (with_reducible exact LeO.refl _)
      | (with_reducible exact LeO.none _)
      | (with_reducible refine LeO.ite ?_ ?_)
      | (with_reducible refine LeO.bind ?_ (fun _ => ?_))
      | exact ih0 _ _ _
      | exact ih1 _ _ _ _
      | exact impl_IsQuad.mono _ _
      | exact impl_isRoot.mono _ _
      | exact impl_scale.mono _ _
      | exact LeO.none _
      | refine LeO.ite ?_ ?_
      | refine LeO.bind ?_ (fun _ => ?_)
theorem impl_rootsWith.mono : ∀ a0 k, LeO (impl_rootsWith.f k a0) (impl_rootsWith.f (k + 1) a0) := by
  intro a0 k
  obtain ⟨ih0, ih1⟩ := impl_rootsWith.mono_l k
  unfold impl_rootsWith.f
  repeat' first
      | (with_reducible exact ih0 _ _ _)
      | (with_reducible exact ih1 _ _ _ _)
      | (with_reducible exact impl_IsQuad.mono _ _)
      | (with_reducible exact impl_isRoot.mono _ _)
      | (with_reducible exact impl_scale.mono _ _)
      | (with_reducible exact LeO.refl _)
      | (with_reducible exact LeO.none _)
      | (with_reducible refine LeO.ite ?_ ?_)
      | (with_reducible refine LeO.bind ?_ (fun _ => ?_))
      | exact ih0 _ _ _
      | exact ih1 _ _ _ _
      | exact impl_IsQuad.mono _ _
      | exact impl_isRoot.mono _ _
      | exact impl_scale.mono _ _
      | exact LeO.none _
      | refine LeO.ite ?_ ?_
      | refine LeO.bind ?_ (fun _ => ?_)
set_option maxHeartbeats 8000000 in
set_option maxRecDepth 100000 in
theorem impl_rootsWith.calls (k : Nat) (a0 : Int) (r : List (List Int)) (w : World) (h : impl_rootsWith.f k a0 = some r) :
    Calls Try.prog 97 #[.int .i64 a0] w fun e w' => ∃ v0_ : Value, e = .returned (v0_) ∧ Kd.S (Kd.slice 3 (Kd.int .i64)) 22 w' w.heap.size (fun _ => True) v0_ r ∧ Below w.heap.size w w' := by
  have HB := Aside0.mk (Below.refl w.heap.size w)
  have H : (impl_rootsWith.l0 k a0 (([] : List (List Int))) 1) = some r := h
  clear h
  obtain ⟨y750, hy750⟩ : ∃ y_ : List (List Int), y_ = (([] : List (List Int))) := ⟨_, rfl⟩
  replace H : (impl_rootsWith.l0 k a0 y750 1) = some r := by first | (rw [hy750]; with_reducible exact H) | (have H2_ := (Option.bind_some _ _).symm.trans H; rw [hy750]; with_reducible exact H2_) | (have H2_ := (Option.bind_some _ _).symm.trans H; with_reducible exact H2_) | with_reducible exact H | (rw [hy750]; exact H) | exact H
  have Ny750 := Aside0.mk hy750
  clear hy750
  have H' := Aside0.mk H
  clear H
  go_enter Try.func97, Try.ntmps97
  go_wp2_with (first | ((with_reducible refine gate_dst (N := 9) rfl ?_); refine Kd.S_lit (Kd.slice 3 (Kd.int .i64)) _ 22 ?hg (N := 9) ?hd (xs := ([] : List (List Int))) (inner := []) (ok := fun _ => True) (okp := fun _ => True) ?hr ?hp (fun _ hk => hk) trivial (Below.refl _ _) (Nat.le_refl _) (by simp) ?_; (case hd => rfl); (case hg => rfl); (case hr => first | (go_simp; done) | (go_simp; rfl)); (case hp => exact (Reps.none _ _)); intro v751 w2 ho3 hb hg_ hnew_; clear hg_ hnew_; (first | rw [← Ny750.out] at ho3 | (simp only [Int.reduceToNat] at ho3; rw [← Ny750.out] at ho3)); have n0_ := Aside0.mk (Kd.S_lower ho3 (below_size (by repeat (first | (with_reducible first | exact HB.out | apply below_alloc | apply pw_below_drewN | apply below_drew1) | exact HB.out)))); have n1_ := Aside0.mk (below_step (by repeat (first | (with_reducible first | exact HB.out | apply below_alloc | apply pw_below_drewN | apply below_drew1) | exact HB.out)) hb); clear HB; have HO752 := n0_; have HB := n1_; clear n0_ n1_; clear hb ho3))
  go_loopg [3, 4] k (fun kq v3 v4 w' => ∃ (x3_1 : List (List Int)) (x4_1 : Int), v4 = .int .i64 x4_1 ∧ Aside0 (impl_rootsWith.l0 kq a0 x3_1 x4_1 = some r) ∧ Aside0 (kq ≤ k) ∧ Aside0 (Kd.S (Kd.slice 3 (Kd.int .i64)) 22 w' w.heap.size (fun _ => True) v3 x3_1) ∧ Aside0 (Below w.heap.size w w'))
  case atStart => exact ⟨(y750), (1), (by first | rfl | (simp; done) | (simp [*]; done)), H', ⟨Nat.le_refl _⟩, ⟨by (with_reducible repeat (first | apply Kd.S_alloc | apply Kd.S_drewN | apply Kd.S_drew)); exact HO752.out⟩, ⟨by repeat (first | (with_reducible first | exact HB.out | apply below_alloc | apply pw_below_drewN | apply below_drew1) | exact HB.out)⟩⟩
  case round =>
    clear H'
    try clear p2
    obtain ⟨x3_1, x4_1, rfl, HA, HK1, HO_3, HB⟩ := hrel
    cases gk with
    | zero => exact absurd HA.out (by simp [impl_rootsWith.l0])
    | succ k1 =>
      have H := HA.out
      clear HA
      simp only [impl_rootsWith.l0] at H
      by_cases c4 : (wrap64 ((wrap64 (3 * x4_1)) * x4_1)) ≤ (wrap64 ((wrap64 (4 * a0)) * a0))
      · rw [if_pos c4] at H
        have c4b0 : decide ((wrap64 ((wrap64 (3 * x4_1)) * x4_1)) ≤ (wrap64 ((wrap64 (4 * a0)) * a0))) = true := decide_eq_true c4
        clear c4
        have H' := Aside0.mk H
        clear H
        go_wp2
        go_loopg [3, 5] k1 (fun kq v3 v5 w' => ∃ (x3_2 : List (List Int)) (x5_2 : Int), v5 = .int .i64 x5_2 ∧ Aside0 (impl_rootsWith.l1 kq a0 x3_2 x4_1 x5_2 = some r) ∧ Aside0 (kq ≤ k1) ∧ Aside0 (Kd.S (Kd.slice 3 (Kd.int .i64)) 22 w' w.heap.size (fun _ => True) v3 x3_2) ∧ Aside0 (Below w.heap.size w w'))
        case atStart => exact ⟨(x3_1), (0), (by first | rfl | (simp; done) | (simp [*]; done)), H', ⟨Nat.le_refl _⟩, ⟨by (with_reducible repeat (first | apply Kd.S_alloc | apply Kd.S_drewN | apply Kd.S_drew)); exact HO_3.out⟩, ⟨by repeat (first | (with_reducible first | exact HB.out | apply below_alloc | apply pw_below_drewN | apply below_drew1) | exact HB.out)⟩⟩
        case round =>
          clear H'
          try clear p2
          try clear c4
          try clear c4b0
          try clear p2
          obtain ⟨x3_2, x5_2, rfl, HA, HK2, HO_3, HB⟩ := hrel
          cases gk with
          | zero => exact absurd HA.out (by simp [impl_rootsWith.l1])
          | succ k2 =>
            have H := HA.out
            clear HA
            simp only [impl_rootsWith.l1] at H
            by_cases c5 : (wrap64 (2 * x5_2)) ≤ x4_1
            · rw [if_pos c5] at H
              have c5b0 : decide ((wrap64 (2 * x5_2)) ≤ x4_1) = true := decide_eq_true c5
              clear c5
              by_cases c6 : x4_1 = 0
              · rw [if_pos c6] at H
                exact absurd H (by simp)
              · rw [if_neg c6] at H
                have c6b0 : (x4_1 == 0) = false := beq_eq_false_iff_ne.mpr c6
                have c6b1 : (x4_1 != 0) = true := bne_iff_ne.mpr c6
                obtain ⟨y753, hy753⟩ : ∃ y_ : List Int, y_ = (([wrap64 (-a0), wrap64 (x4_1 + a0), wrap64 ((wrap64 (Int.tdiv (wrap64 ((wrap64 (a0 * a0)) + (wrap64 (x5_2 * x5_2)))) x4_1)) + a0), wrap64 ((wrap64 ((wrap64 (x4_1 + (wrap64 (Int.tdiv (wrap64 ((wrap64 (a0 * a0)) + (wrap64 (x5_2 * x5_2)))) x4_1)))) + a0)) - (wrap64 (2 * x5_2)))] : List Int)) := ⟨_, rfl⟩
                replace H : (if (Int.tmod (wrap64 ((wrap64 (a0 * a0)) + (wrap64 (x5_2 * x5_2)))) x4_1) = 0 then (if (wrap64 (Int.tdiv (wrap64 ((wrap64 (a0 * a0)) + (wrap64 (x5_2 * x5_2)))) x4_1)) ≥ x4_1 then ((impl_IsQuad.f k2 y753).bind fun t756 => (if t756 = true then ((impl_isRoot.f k2 y753).bind fun t757 => (if t757 = true then ((impl_scale.f k2 y753).bind fun t758 => (if t758 = 1 then ((slices_Sort_int_int.f y753).bind fun t759 => (if x3_2.length < 5864062014805 then (impl_rootsWith.l1 k2 a0 (x3_2 ++ [t759]) x4_1 (wrap64 (x5_2 + 1))) else (none))) else (impl_rootsWith.l1 k2 a0 x3_2 x4_1 (wrap64 (x5_2 + 1))))) else (impl_rootsWith.l1 k2 a0 x3_2 x4_1 (wrap64 (x5_2 + 1))))) else (impl_rootsWith.l1 k2 a0 x3_2 x4_1 (wrap64 (x5_2 + 1))))) else (impl_rootsWith.l1 k2 a0 x3_2 x4_1 (wrap64 (x5_2 + 1)))) else (impl_rootsWith.l1 k2 a0 x3_2 x4_1 (wrap64 (x5_2 + 1)))) = some r := by first | (rw [hy753]; with_reducible exact H) | (have H2_ := (Option.bind_some _ _).symm.trans H; rw [hy753]; with_reducible exact H2_) | (have H2_ := (Option.bind_some _ _).symm.trans H; with_reducible exact H2_) | with_reducible exact H | (rw [hy753]; exact H) | exact H
                have Ny753 := Aside0.mk hy753
                clear hy753
                by_cases c7 : (Int.tmod (wrap64 ((wrap64 (a0 * a0)) + (wrap64 (x5_2 * x5_2)))) x4_1) = 0
                · rw [if_pos c7] at H
                  have c7b0 : ((Int.tmod (wrap64 ((wrap64 (a0 * a0)) + (wrap64 (x5_2 * x5_2)))) x4_1) == 0) = true := beq_iff_eq.mpr c7
                  have c7b1 : ((Int.tmod (wrap64 ((wrap64 (a0 * a0)) + (wrap64 (x5_2 * x5_2)))) x4_1) != 0) = false := bne_eq_false_iff_eq.mpr c7
                  clear c7
                  by_cases c8 : (wrap64 (Int.tdiv (wrap64 ((wrap64 (a0 * a0)) + (wrap64 (x5_2 * x5_2)))) x4_1)) ≥ x4_1
                  · rw [if_pos c8] at H
                    have c8b0 : decide (x4_1 ≤ (wrap64 (Int.tdiv (wrap64 ((wrap64 (a0 * a0)) + (wrap64 (x5_2 * x5_2)))) x4_1))) = true := decide_eq_true c8
                    clear c8
                    replace H := Option.bind_eq_some_iff.mp H
                    obtain ⟨t756, A90, H⟩ := H
                    replace H : (if t756 = true then ((impl_isRoot.f k2 y753).bind fun t757 => (if t757 = true then ((impl_scale.f k2 y753).bind fun t758 => (if t758 = 1 then ((slices_Sort_int_int.f y753).bind fun t759 => (if x3_2.length < 5864062014805 then (impl_rootsWith.l1 k2 a0 (x3_2 ++ [t759]) x4_1 (wrap64 (x5_2 + 1))) else (none))) else (impl_rootsWith.l1 k2 a0 x3_2 x4_1 (wrap64 (x5_2 + 1))))) else (impl_rootsWith.l1 k2 a0 x3_2 x4_1 (wrap64 (x5_2 + 1))))) else (impl_rootsWith.l1 k2 a0 x3_2 x4_1 (wrap64 (x5_2 + 1)))) = some r := H
                    have A9 := Aside0.mk A90
                    clear A90
                    by_cases c10 : t756 = true
                    · subst c10
                      have H1 : ((impl_isRoot.f k2 y753).bind fun t757 => (if t757 = true then ((impl_scale.f k2 y753).bind fun t758 => (if t758 = 1 then ((slices_Sort_int_int.f y753).bind fun t759 => (if x3_2.length < 5864062014805 then (impl_rootsWith.l1 k2 a0 (x3_2 ++ [t759]) x4_1 (wrap64 (x5_2 + 1))) else (none))) else (impl_rootsWith.l1 k2 a0 x3_2 x4_1 (wrap64 (x5_2 + 1))))) else (impl_rootsWith.l1 k2 a0 x3_2 x4_1 (wrap64 (x5_2 + 1))))) = some r := by rw [if_pos rfl] at H; exact H
                      clear H
                      have H := H1
                      clear H1
                      replace H := Option.bind_eq_some_iff.mp H
                      obtain ⟨t757, A110, H⟩ := H
                      replace H : (if t757 = true then ((impl_scale.f k2 y753).bind fun t758 => (if t758 = 1 then ((slices_Sort_int_int.f y753).bind fun t759 => (if x3_2.length < 5864062014805 then (impl_rootsWith.l1 k2 a0 (x3_2 ++ [t759]) x4_1 (wrap64 (x5_2 + 1))) else (none))) else (impl_rootsWith.l1 k2 a0 x3_2 x4_1 (wrap64 (x5_2 + 1))))) else (impl_rootsWith.l1 k2 a0 x3_2 x4_1 (wrap64 (x5_2 + 1)))) = some r := H
                      have A11 := Aside0.mk A110
                      clear A110
                      by_cases c12 : t757 = true
                      · subst c12
                        have H1 : ((impl_scale.f k2 y753).bind fun t758 => (if t758 = 1 then ((slices_Sort_int_int.f y753).bind fun t759 => (if x3_2.length < 5864062014805 then (impl_rootsWith.l1 k2 a0 (x3_2 ++ [t759]) x4_1 (wrap64 (x5_2 + 1))) else (none))) else (impl_rootsWith.l1 k2 a0 x3_2 x4_1 (wrap64 (x5_2 + 1))))) = some r := by rw [if_pos rfl] at H; exact H
                        clear H
                        have H := H1
                        clear H1
                        replace H := Option.bind_eq_some_iff.mp H
                        obtain ⟨t758, A130, H⟩ := H
                        replace H : (if t758 = 1 then ((slices_Sort_int_int.f y753).bind fun t759 => (if x3_2.length < 5864062014805 then (impl_rootsWith.l1 k2 a0 (x3_2 ++ [t759]) x4_1 (wrap64 (x5_2 + 1))) else (none))) else (impl_rootsWith.l1 k2 a0 x3_2 x4_1 (wrap64 (x5_2 + 1)))) = some r := H
                        have A13 := Aside0.mk A130
                        clear A130
                        by_cases c14 : t758 = 1
                        · rw [if_pos c14] at H
                          have c14b0 : (t758 == 1) = true := beq_iff_eq.mpr c14
                          have c14b1 : (t758 != 1) = false := bne_eq_false_iff_eq.mpr c14
                          clear c14
                          replace H := Option.bind_eq_some_iff.mp H
                          obtain ⟨t759, A150, H⟩ := H
                          replace H : (if x3_2.length < 5864062014805 then (impl_rootsWith.l1 k2 a0 (x3_2 ++ [t759]) x4_1 (wrap64 (x5_2 + 1))) else (none)) = some r := H
                          have A15 := Aside0.mk A150
                          clear A150
                          by_cases c16 : x3_2.length < 5864062014805
                          · rw [if_pos c16] at H
                            have LMc16 := Aside0.mk c16
                            clear c16
                            obtain ⟨y760, hy760⟩ : ∃ y_ : List (List Int), y_ = (x3_2 ++ [t759]) := ⟨_, rfl⟩
                            replace H : (impl_rootsWith.l1 k2 a0 y760 x4_1 (wrap64 (x5_2 + 1))) = some r := by first | (rw [hy760]; with_reducible exact H) | (have H2_ := (Option.bind_some _ _).symm.trans H; rw [hy760]; with_reducible exact H2_) | (have H2_ := (Option.bind_some _ _).symm.trans H; with_reducible exact H2_) | with_reducible exact H | (rw [hy760]; exact H) | exact H
                            have Ny760 := Aside0.mk hy760
                            clear hy760
                            have H' := Aside0.mk H
                            clear H
                            go_wp2_with (first | ((with_reducible refine gate_dst (N := 53) rfl ?_); refine Kd.R_lit (Kd.int .i64) _ 3 ?hg (N := 53) ?hd (xs := ([wrap64 (-a0), wrap64 (x4_1 + a0), wrap64 ((wrap64 (Int.tdiv (wrap64 ((wrap64 (a0 * a0)) + (wrap64 (x5_2 * x5_2)))) x4_1)) + a0), wrap64 ((wrap64 ((wrap64 (x4_1 + (wrap64 (Int.tdiv (wrap64 ((wrap64 (a0 * a0)) + (wrap64 (x5_2 * x5_2)))) x4_1)))) + a0)) - (wrap64 (2 * x5_2)))] : List Int)) (inner := [.int .i64 (wrap64 (-a0)), .int .i64 (wrap64 (x4_1 + a0)), .int .i64 (wrap64 ((wrap64 (Int.tdiv (wrap64 ((wrap64 (a0 * a0)) + (wrap64 (x5_2 * x5_2)))) x4_1)) + a0)), .int .i64 (wrap64 ((wrap64 ((wrap64 (x4_1 + (wrap64 (Int.tdiv (wrap64 ((wrap64 (a0 * a0)) + (wrap64 (x5_2 * x5_2)))) x4_1)))) + a0)) - (wrap64 (2 * x5_2))))]) (ok := fun _ => True) (okp := fun _ => True) ?hr ?hp (fun _ hk => hk) trivial (Below.refl _ _) (Nat.le_refl _) (by simp) ?_; (case hd => rfl); (case hg => rfl); (case hr => first | (go_simp; done) | (go_simp; rfl)); (case hp => exact (Reps.one (show Kd.M (Kd.int .i64) _ _ _ (wrap64 (-a0)) [.int .i64 (wrap64 (-a0))] from rfl) (Reps.one (show Kd.M (Kd.int .i64) _ _ _ (wrap64 (x4_1 + a0)) [.int .i64 (wrap64 (x4_1 + a0))] from rfl) (Reps.one (show Kd.M (Kd.int .i64) _ _ _ (wrap64 ((wrap64 (Int.tdiv (wrap64 ((wrap64 (a0 * a0)) + (wrap64 (x5_2 * x5_2)))) x4_1)) + a0)) [.int .i64 (wrap64 ((wrap64 (Int.tdiv (wrap64 ((wrap64 (a0 * a0)) + (wrap64 (x5_2 * x5_2)))) x4_1)) + a0))] from rfl) (Reps.one (show Kd.M (Kd.int .i64) _ _ _ (wrap64 ((wrap64 ((wrap64 (x4_1 + (wrap64 (Int.tdiv (wrap64 ((wrap64 (a0 * a0)) + (wrap64 (x5_2 * x5_2)))) x4_1)))) + a0)) - (wrap64 (2 * x5_2)))) [.int .i64 (wrap64 ((wrap64 ((wrap64 (x4_1 + (wrap64 (Int.tdiv (wrap64 ((wrap64 (a0 * a0)) + (wrap64 (x5_2 * x5_2)))) x4_1)))) + a0)) - (wrap64 (2 * x5_2))))] from rfl) (Reps.none _ _)))))); intro v754 w17 ho18 hb hg_ hnew_; clear hg_ hnew_; (first | rw [← Ny753.out] at ho18 | (simp only [Int.reduceToNat] at ho18; rw [← Ny753.out] at ho18)); have n0_ := Aside0.mk (Kd.S_elder' (by (with_reducible repeat (first | apply Kd.S_alloc | apply Kd.S_drewN | apply Kd.S_drew)); exact HO_3.out) (Kd.R_base ho18) hb); have n1_ := Aside0.mk (Kd.R_lower ho18 (below_size (by repeat (first | (with_reducible first | exact HB.out | apply below_alloc | apply pw_below_drewN | apply below_drew1) | exact HB.out)))); have n2_ := Aside0.mk (below_step (by repeat (first | (with_reducible first | exact HB.out | apply below_alloc | apply pw_below_drewN | apply below_drew1) | exact HB.out)) hb); clear HO_3; clear HB; have HO_3 := n0_; have HO755 := n1_; have HB := n2_; clear n0_ n1_ n2_; clear hb ho18; obtain ⟨Ao19, co19, eo19⟩ := Kd.R_slice HO755.out; subst eo19) | (go_at_call 21; (with_reducible refine (impl_IsQuad.calls k2 _ _ y753 true _ ?side1 ?side2 A9.out).mono ?_); (case side1 => repeat (first | exact (Kd.R_reads' HO755.out).2.2 | (with_reducible refine Kd.C_alloc ?_ _) | (with_reducible refine Kd.C_drewN ?_ _) | (with_reducible refine Kd.C_drew ?_))); (case side2 => exact (Kd.R_reads' HO755.out).2.1); rintro e w20 ⟨rfl, hb⟩; have n0_ := Aside0.mk (Kd.S_below (by (with_reducible repeat (first | apply Kd.S_alloc | apply Kd.S_drewN | apply Kd.S_drew)); exact HO_3.out) hb); have n1_ := Aside0.mk (Kd.R_below (by (with_reducible repeat (first | apply Kd.R_alloc | apply Kd.R_drewN | apply Kd.R_drew)); exact HO755.out) hb); have n2_ := Aside0.mk (below_step (by repeat (first | (with_reducible first | exact HB.out | apply below_alloc | apply pw_below_drewN | apply below_drew1) | exact HB.out)) hb); clear HO_3; clear HO755; clear HB; have HO_3 := n0_; have HO755 := n1_; have HB := n2_; clear n0_ n1_ n2_; (try clear hb); (try clear hb2); (try clear hk); (try clear hi)) | (go_at_call 75; (with_reducible refine (impl_isRoot.calls k2 _ _ y753 true _ ?side1 ?side2 A11.out).mono ?_); (case side1 => repeat (first | exact (Kd.R_reads' HO755.out).2.2 | (with_reducible refine Kd.C_alloc ?_ _) | (with_reducible refine Kd.C_drewN ?_ _) | (with_reducible refine Kd.C_drew ?_))); (case side2 => exact (Kd.R_reads' HO755.out).2.1); rintro e w21 ⟨rfl, hb⟩; have n0_ := Aside0.mk (Kd.S_below (by (with_reducible repeat (first | apply Kd.S_alloc | apply Kd.S_drewN | apply Kd.S_drew)); exact HO_3.out) hb); have n1_ := Aside0.mk (Kd.R_below (by (with_reducible repeat (first | apply Kd.R_alloc | apply Kd.R_drewN | apply Kd.R_drew)); exact HO755.out) hb); have n2_ := Aside0.mk (below_step (by repeat (first | (with_reducible first | exact HB.out | apply below_alloc | apply pw_below_drewN | apply below_drew1) | exact HB.out)) hb); clear HO_3; clear HO755; clear HB; have HO_3 := n0_; have HO755 := n1_; have HB := n2_; clear n0_ n1_ n2_; (try clear hb); (try clear hb2); (try clear hk); (try clear hi)) | (go_at_call 69; (with_reducible refine (impl_scale.calls k2 _ _ y753 t758 _ ?side1 ?side2 A13.out).mono ?_); (case side1 => repeat (first | exact (Kd.R_reads' HO755.out).2.2 | (with_reducible refine Kd.C_alloc ?_ _) | (with_reducible refine Kd.C_drewN ?_ _) | (with_reducible refine Kd.C_drew ?_))); (case side2 => exact (Kd.R_reads' HO755.out).2.1); rintro e w22 ⟨rfl, hb⟩; have n0_ := Aside0.mk (Kd.S_below (by (with_reducible repeat (first | apply Kd.S_alloc | apply Kd.S_drewN | apply Kd.S_drew)); exact HO_3.out) hb); have n1_ := Aside0.mk (Kd.R_below (by (with_reducible repeat (first | apply Kd.R_alloc | apply Kd.R_drewN | apply Kd.R_drew)); exact HO755.out) hb); have n2_ := Aside0.mk (below_step (by repeat (first | (with_reducible first | exact HB.out | apply below_alloc | apply pw_below_drewN | apply below_drew1) | exact HB.out)) hb); clear HO_3; clear HO755; clear HB; have HO_3 := n0_; have HO755 := n1_; have HB := n2_; clear n0_ n1_ n2_; (try clear hb); (try clear hb2); (try clear hk); (try clear hi)) | ((with_reducible refine gate_callee (f := 107) rfl ?_); refine goesL_ (some 77) rfl rfl Try.func107 (by kernel_rfl) rfl #[.slice Ao19 y753.length co19] rfl (by (try simp only [List.map_toArray, List.map_cons, List.map_nil]); first | done | rfl | (simp only [List.length_drop, List.length_take]; rfl)) ?_; (with_reducible refine (slices_Sort_int_int.calls (fun k_ => some k_ = (.slice Ao19 y753.length co19 : Value).ownBlock) (.slice Ao19 y753.length co19) y753 t759 w _ ?side1 ?side2 A15.out).mono ?_); (case side1 => repeat (first | (with_reducible first | exact HB.out | apply below_alloc | apply pw_below_drewN | apply below_drew1) | exact HB.out)); (case side2 => exact Kd.R_tight rfl HO755.out); rintro e w23 ⟨rfl, hy0, hb, hkp⟩; refine ⟨_, rfl, ?_⟩; have n0_ := Aside0.mk (Kd.S_mono (ok' := fun k_ => some k_ ≠ (.slice Ao19 y753.length co19 : Value).ownBlock) (Kd.S_keptB (HO_3.out) hkp (fun k_ hk_ hs_ => (hk_.2) hs_)) (fun k_ hk_ => hk_.1.2)); have n1_ := Aside0.mk (Kd.R_reok rfl hy0 (fun k_ e_ => HO755.out.1 k_ e_)); have n2_ := Aside0.mk (hb); clear HO_3; clear HO755; clear HB; have HO_3 := n0_; have HO755 := n1_; have HB := n2_; clear n0_ n1_ n2_; (try clear hb); (try clear hkp); (try clear hy0)) | ((with_reducible refine gate_builtin (b := .append) (xs := #[.tmp 78, .tmp 80]) rfl ?_); at_builtin; refine Kd.S_append (Kd.slice 3 (Kd.int .i64)) (w0 := w) w.heap.size rfl (.tmp 78) (.tmp 80) 26 22 (.slice none 0 0) 24 rfl Try.underlying26 info22 rfl (by decide) (by omega) u3 x3_2 t759 [.slice Ao19 y753.length co19] (fun _ => True) (fun k_ => some k_ = (.slice Ao19 y753.length co19 : Value).ownBlock) rfl rfl ?aP (fun k_ hk_ => ((Kd.R_mono (ok' := fun k_ => ((fun _ => True)) k_ ∧ some k_ ≠ (u3 : Value).ownBlock) (Kd.R_apart' (HO755.out) (Kd.S_typed HO_3.out) (by decide)) (fun k_ hk => ⟨trivial, hk.2⟩))).1 k_ hk_.symm) ?aF ?aO ?aB ?aS ?aL ?_; (case aP => exact Kd.M_row (Kd.R_mono (Kd.R_tight rfl (Kd.R_mono (ok' := fun k_ => ((fun _ => True)) k_ ∧ some k_ ≠ (u3 : Value).ownBlock) (Kd.R_apart' (HO755.out) (Kd.S_typed HO_3.out) (by decide)) (fun k_ hk => ⟨trivial, hk.2⟩))) (fun _ h_ => h_))); (case aB => exact (by repeat (first | (with_reducible first | exact HB.out | apply below_alloc | apply pw_below_drewN | apply below_drew1) | exact HB.out))); (case aF => exact (fun _ _ => trivial)); (case aO => exact (by (with_reducible repeat (first | apply Kd.S_alloc | apply Kd.S_drewN | apply Kd.S_drew)); exact Kd.S_mono HO_3.out (fun k_ hk => ⟨trivial, fun e_ => hk e_⟩))); (case aS => exact (below_size (by repeat (first | (with_reducible first | exact HB.out | apply below_alloc | apply pw_below_drewN | apply below_drew1) | exact HB.out)))); (case aL => have := LMc16.out; omega); intro v761 w24 ho hb hg hat; rw [← Ny760.out] at ho; have n0_ := Aside0.mk (hb); have n1_ := Aside0.mk (ho); clear HB; clear HO_3; clear HO755; have HB := n0_; have HO762 := n1_; clear n0_ n1_; clear ho hb hg hat))
                            go_roundg k2
                            case measure => have := HK1.out; have := HK2.out; omega
                            case rel => exact ⟨(y760), (wrap64 (x5_2 + 1)), (by first | rfl | (simp; done) | (simp [*]; done)), H', ⟨by have := HK1.out; have := HK2.out; omega⟩, ⟨by (with_reducible repeat (first | apply Kd.S_alloc | apply Kd.S_drewN | apply Kd.S_drew)); exact HO762.out⟩, ⟨by repeat (first | (with_reducible first | exact HB.out | apply below_alloc | apply pw_below_drewN | apply below_drew1) | exact HB.out)⟩⟩
                          · rw [if_neg c16] at H
                            exact absurd H (by simp)
                        · rw [if_neg c14] at H
                          have c14b0 : (t758 == 1) = false := beq_eq_false_iff_ne.mpr c14
                          have c14b1 : (t758 != 1) = true := bne_iff_ne.mpr c14
                          have H' := Aside0.mk H
                          clear H
                          go_wp2_with (first | ((with_reducible refine gate_dst (N := 53) rfl ?_); refine Kd.R_lit (Kd.int .i64) _ 3 ?hg (N := 53) ?hd (xs := ([wrap64 (-a0), wrap64 (x4_1 + a0), wrap64 ((wrap64 (Int.tdiv (wrap64 ((wrap64 (a0 * a0)) + (wrap64 (x5_2 * x5_2)))) x4_1)) + a0), wrap64 ((wrap64 ((wrap64 (x4_1 + (wrap64 (Int.tdiv (wrap64 ((wrap64 (a0 * a0)) + (wrap64 (x5_2 * x5_2)))) x4_1)))) + a0)) - (wrap64 (2 * x5_2)))] : List Int)) (inner := [.int .i64 (wrap64 (-a0)), .int .i64 (wrap64 (x4_1 + a0)), .int .i64 (wrap64 ((wrap64 (Int.tdiv (wrap64 ((wrap64 (a0 * a0)) + (wrap64 (x5_2 * x5_2)))) x4_1)) + a0)), .int .i64 (wrap64 ((wrap64 ((wrap64 (x4_1 + (wrap64 (Int.tdiv (wrap64 ((wrap64 (a0 * a0)) + (wrap64 (x5_2 * x5_2)))) x4_1)))) + a0)) - (wrap64 (2 * x5_2))))]) (ok := fun _ => True) (okp := fun _ => True) ?hr ?hp (fun _ hk => hk) trivial (Below.refl _ _) (Nat.le_refl _) (by simp) ?_; (case hd => rfl); (case hg => rfl); (case hr => first | (go_simp; done) | (go_simp; rfl)); (case hp => exact (Reps.one (show Kd.M (Kd.int .i64) _ _ _ (wrap64 (-a0)) [.int .i64 (wrap64 (-a0))] from rfl) (Reps.one (show Kd.M (Kd.int .i64) _ _ _ (wrap64 (x4_1 + a0)) [.int .i64 (wrap64 (x4_1 + a0))] from rfl) (Reps.one (show Kd.M (Kd.int .i64) _ _ _ (wrap64 ((wrap64 (Int.tdiv (wrap64 ((wrap64 (a0 * a0)) + (wrap64 (x5_2 * x5_2)))) x4_1)) + a0)) [.int .i64 (wrap64 ((wrap64 (Int.tdiv (wrap64 ((wrap64 (a0 * a0)) + (wrap64 (x5_2 * x5_2)))) x4_1)) + a0))] from rfl) (Reps.one (show Kd.M (Kd.int .i64) _ _ _ (wrap64 ((wrap64 ((wrap64 (x4_1 + (wrap64 (Int.tdiv (wrap64 ((wrap64 (a0 * a0)) + (wrap64 (x5_2 * x5_2)))) x4_1)))) + a0)) - (wrap64 (2 * x5_2)))) [.int .i64 (wrap64 ((wrap64 ((wrap64 (x4_1 + (wrap64 (Int.tdiv (wrap64 ((wrap64 (a0 * a0)) + (wrap64 (x5_2 * x5_2)))) x4_1)))) + a0)) - (wrap64 (2 * x5_2))))] from rfl) (Reps.none _ _)))))); intro v754 w25 ho26 hb hg_ hnew_; clear hg_ hnew_; (first | rw [← Ny753.out] at ho26 | (simp only [Int.reduceToNat] at ho26; rw [← Ny753.out] at ho26)); have n0_ := Aside0.mk (Kd.S_elder' (by (with_reducible repeat (first | apply Kd.S_alloc | apply Kd.S_drewN | apply Kd.S_drew)); exact HO_3.out) (Kd.R_base ho26) hb); have n1_ := Aside0.mk (Kd.R_lower ho26 (below_size (by repeat (first | (with_reducible first | exact HB.out | apply below_alloc | apply pw_below_drewN | apply below_drew1) | exact HB.out)))); have n2_ := Aside0.mk (below_step (by repeat (first | (with_reducible first | exact HB.out | apply below_alloc | apply pw_below_drewN | apply below_drew1) | exact HB.out)) hb); clear HO_3; clear HB; have HO_3 := n0_; have HO755 := n1_; have HB := n2_; clear n0_ n1_ n2_; clear hb ho26; obtain ⟨Ao27, co27, eo27⟩ := Kd.R_slice HO755.out; subst eo27) | (go_at_call 21; (with_reducible refine (impl_IsQuad.calls k2 _ _ y753 true _ ?side1 ?side2 A9.out).mono ?_); (case side1 => repeat (first | exact (Kd.R_reads' HO755.out).2.2 | (with_reducible refine Kd.C_alloc ?_ _) | (with_reducible refine Kd.C_drewN ?_ _) | (with_reducible refine Kd.C_drew ?_))); (case side2 => exact (Kd.R_reads' HO755.out).2.1); rintro e w28 ⟨rfl, hb⟩; have n0_ := Aside0.mk (Kd.S_below (by (with_reducible repeat (first | apply Kd.S_alloc | apply Kd.S_drewN | apply Kd.S_drew)); exact HO_3.out) hb); have n1_ := Aside0.mk (Kd.R_below (by (with_reducible repeat (first | apply Kd.R_alloc | apply Kd.R_drewN | apply Kd.R_drew)); exact HO755.out) hb); have n2_ := Aside0.mk (below_step (by repeat (first | (with_reducible first | exact HB.out | apply below_alloc | apply pw_below_drewN | apply below_drew1) | exact HB.out)) hb); clear HO_3; clear HO755; clear HB; have HO_3 := n0_; have HO755 := n1_; have HB := n2_; clear n0_ n1_ n2_; (try clear hb); (try clear hb2); (try clear hk); (try clear hi)) | (go_at_call 75; (with_reducible refine (impl_isRoot.calls k2 _ _ y753 true _ ?side1 ?side2 A11.out).mono ?_); (case side1 => repeat (first | exact (Kd.R_reads' HO755.out).2.2 | (with_reducible refine Kd.C_alloc ?_ _) | (with_reducible refine Kd.C_drewN ?_ _) | (with_reducible refine Kd.C_drew ?_))); (case side2 => exact (Kd.R_reads' HO755.out).2.1); rintro e w29 ⟨rfl, hb⟩; have n0_ := Aside0.mk (Kd.S_below (by (with_reducible repeat (first | apply Kd.S_alloc | apply Kd.S_drewN | apply Kd.S_drew)); exact HO_3.out) hb); have n1_ := Aside0.mk (Kd.R_below (by (with_reducible repeat (first | apply Kd.R_alloc | apply Kd.R_drewN | apply Kd.R_drew)); exact HO755.out) hb); have n2_ := Aside0.mk (below_step (by repeat (first | (with_reducible first | exact HB.out | apply below_alloc | apply pw_below_drewN | apply below_drew1) | exact HB.out)) hb); clear HO_3; clear HO755; clear HB; have HO_3 := n0_; have HO755 := n1_; have HB := n2_; clear n0_ n1_ n2_; (try clear hb); (try clear hb2); (try clear hk); (try clear hi)) | (go_at_call 69; (with_reducible refine (impl_scale.calls k2 _ _ y753 t758 _ ?side1 ?side2 A13.out).mono ?_); (case side1 => repeat (first | exact (Kd.R_reads' HO755.out).2.2 | (with_reducible refine Kd.C_alloc ?_ _) | (with_reducible refine Kd.C_drewN ?_ _) | (with_reducible refine Kd.C_drew ?_))); (case side2 => exact (Kd.R_reads' HO755.out).2.1); rintro e w30 ⟨rfl, hb⟩; have n0_ := Aside0.mk (Kd.S_below (by (with_reducible repeat (first | apply Kd.S_alloc | apply Kd.S_drewN | apply Kd.S_drew)); exact HO_3.out) hb); have n1_ := Aside0.mk (Kd.R_below (by (with_reducible repeat (first | apply Kd.R_alloc | apply Kd.R_drewN | apply Kd.R_drew)); exact HO755.out) hb); have n2_ := Aside0.mk (below_step (by repeat (first | (with_reducible first | exact HB.out | apply below_alloc | apply pw_below_drewN | apply below_drew1) | exact HB.out)) hb); clear HO_3; clear HO755; clear HB; have HO_3 := n0_; have HO755 := n1_; have HB := n2_; clear n0_ n1_ n2_; (try clear hb); (try clear hb2); (try clear hk); (try clear hi)))
                          go_roundg k2
                          case measure => have := HK1.out; have := HK2.out; omega
                          case rel => exact ⟨(x3_2), (wrap64 (x5_2 + 1)), (by first | rfl | (simp; done) | (simp [*]; done)), H', ⟨by have := HK1.out; have := HK2.out; omega⟩, ⟨by (with_reducible repeat (first | apply Kd.S_alloc | apply Kd.S_drewN | apply Kd.S_drew)); exact Kd.S_mono HO_3.out (fun _ hk => trivial)⟩, ⟨by repeat (first | (with_reducible first | exact HB.out | apply below_alloc | apply pw_below_drewN | apply below_drew1) | exact HB.out)⟩⟩
                      · replace c12 := Bool.eq_false_iff.mpr c12
                        subst c12
                        have H1 : (impl_rootsWith.l1 k2 a0 x3_2 x4_1 (wrap64 (x5_2 + 1))) = some r := by rw [if_neg (show ¬ (false = true) by decide)] at H; exact H
                        clear H
                        have H := H1
                        clear H1
                        have H' := Aside0.mk H
                        clear H
                        go_wp2_with (first | ((with_reducible refine gate_dst (N := 53) rfl ?_); refine Kd.R_lit (Kd.int .i64) _ 3 ?hg (N := 53) ?hd (xs := ([wrap64 (-a0), wrap64 (x4_1 + a0), wrap64 ((wrap64 (Int.tdiv (wrap64 ((wrap64 (a0 * a0)) + (wrap64 (x5_2 * x5_2)))) x4_1)) + a0), wrap64 ((wrap64 ((wrap64 (x4_1 + (wrap64 (Int.tdiv (wrap64 ((wrap64 (a0 * a0)) + (wrap64 (x5_2 * x5_2)))) x4_1)))) + a0)) - (wrap64 (2 * x5_2)))] : List Int)) (inner := [.int .i64 (wrap64 (-a0)), .int .i64 (wrap64 (x4_1 + a0)), .int .i64 (wrap64 ((wrap64 (Int.tdiv (wrap64 ((wrap64 (a0 * a0)) + (wrap64 (x5_2 * x5_2)))) x4_1)) + a0)), .int .i64 (wrap64 ((wrap64 ((wrap64 (x4_1 + (wrap64 (Int.tdiv (wrap64 ((wrap64 (a0 * a0)) + (wrap64 (x5_2 * x5_2)))) x4_1)))) + a0)) - (wrap64 (2 * x5_2))))]) (ok := fun _ => True) (okp := fun _ => True) ?hr ?hp (fun _ hk => hk) trivial (Below.refl _ _) (Nat.le_refl _) (by simp) ?_; (case hd => rfl); (case hg => rfl); (case hr => first | (go_simp; done) | (go_simp; rfl)); (case hp => exact (Reps.one (show Kd.M (Kd.int .i64) _ _ _ (wrap64 (-a0)) [.int .i64 (wrap64 (-a0))] from rfl) (Reps.one (show Kd.M (Kd.int .i64) _ _ _ (wrap64 (x4_1 + a0)) [.int .i64 (wrap64 (x4_1 + a0))] from rfl) (Reps.one (show Kd.M (Kd.int .i64) _ _ _ (wrap64 ((wrap64 (Int.tdiv (wrap64 ((wrap64 (a0 * a0)) + (wrap64 (x5_2 * x5_2)))) x4_1)) + a0)) [.int .i64 (wrap64 ((wrap64 (Int.tdiv (wrap64 ((wrap64 (a0 * a0)) + (wrap64 (x5_2 * x5_2)))) x4_1)) + a0))] from rfl) (Reps.one (show Kd.M (Kd.int .i64) _ _ _ (wrap64 ((wrap64 ((wrap64 (x4_1 + (wrap64 (Int.tdiv (wrap64 ((wrap64 (a0 * a0)) + (wrap64 (x5_2 * x5_2)))) x4_1)))) + a0)) - (wrap64 (2 * x5_2)))) [.int .i64 (wrap64 ((wrap64 ((wrap64 (x4_1 + (wrap64 (Int.tdiv (wrap64 ((wrap64 (a0 * a0)) + (wrap64 (x5_2 * x5_2)))) x4_1)))) + a0)) - (wrap64 (2 * x5_2))))] from rfl) (Reps.none _ _)))))); intro v754 w31 ho32 hb hg_ hnew_; clear hg_ hnew_; (first | rw [← Ny753.out] at ho32 | (simp only [Int.reduceToNat] at ho32; rw [← Ny753.out] at ho32)); have n0_ := Aside0.mk (Kd.S_elder' (by (with_reducible repeat (first | apply Kd.S_alloc | apply Kd.S_drewN | apply Kd.S_drew)); exact HO_3.out) (Kd.R_base ho32) hb); have n1_ := Aside0.mk (Kd.R_lower ho32 (below_size (by repeat (first | (with_reducible first | exact HB.out | apply below_alloc | apply pw_below_drewN | apply below_drew1) | exact HB.out)))); have n2_ := Aside0.mk (below_step (by repeat (first | (with_reducible first | exact HB.out | apply below_alloc | apply pw_below_drewN | apply below_drew1) | exact HB.out)) hb); clear HO_3; clear HB; have HO_3 := n0_; have HO755 := n1_; have HB := n2_; clear n0_ n1_ n2_; clear hb ho32; obtain ⟨Ao33, co33, eo33⟩ := Kd.R_slice HO755.out; subst eo33) | (go_at_call 21; (with_reducible refine (impl_IsQuad.calls k2 _ _ y753 true _ ?side1 ?side2 A9.out).mono ?_); (case side1 => repeat (first | exact (Kd.R_reads' HO755.out).2.2 | (with_reducible refine Kd.C_alloc ?_ _) | (with_reducible refine Kd.C_drewN ?_ _) | (with_reducible refine Kd.C_drew ?_))); (case side2 => exact (Kd.R_reads' HO755.out).2.1); rintro e w34 ⟨rfl, hb⟩; have n0_ := Aside0.mk (Kd.S_below (by (with_reducible repeat (first | apply Kd.S_alloc | apply Kd.S_drewN | apply Kd.S_drew)); exact HO_3.out) hb); have n1_ := Aside0.mk (Kd.R_below (by (with_reducible repeat (first | apply Kd.R_alloc | apply Kd.R_drewN | apply Kd.R_drew)); exact HO755.out) hb); have n2_ := Aside0.mk (below_step (by repeat (first | (with_reducible first | exact HB.out | apply below_alloc | apply pw_below_drewN | apply below_drew1) | exact HB.out)) hb); clear HO_3; clear HO755; clear HB; have HO_3 := n0_; have HO755 := n1_; have HB := n2_; clear n0_ n1_ n2_; (try clear hb); (try clear hb2); (try clear hk); (try clear hi)) | (go_at_call 75; (with_reducible refine (impl_isRoot.calls k2 _ _ y753 false _ ?side1 ?side2 A11.out).mono ?_); (case side1 => repeat (first | exact (Kd.R_reads' HO755.out).2.2 | (with_reducible refine Kd.C_alloc ?_ _) | (with_reducible refine Kd.C_drewN ?_ _) | (with_reducible refine Kd.C_drew ?_))); (case side2 => exact (Kd.R_reads' HO755.out).2.1); rintro e w35 ⟨rfl, hb⟩; have n0_ := Aside0.mk (Kd.S_below (by (with_reducible repeat (first | apply Kd.S_alloc | apply Kd.S_drewN | apply Kd.S_drew)); exact HO_3.out) hb); have n1_ := Aside0.mk (Kd.R_below (by (with_reducible repeat (first | apply Kd.R_alloc | apply Kd.R_drewN | apply Kd.R_drew)); exact HO755.out) hb); have n2_ := Aside0.mk (below_step (by repeat (first | (with_reducible first | exact HB.out | apply below_alloc | apply pw_below_drewN | apply below_drew1) | exact HB.out)) hb); clear HO_3; clear HO755; clear HB; have HO_3 := n0_; have HO755 := n1_; have HB := n2_; clear n0_ n1_ n2_; (try clear hb); (try clear hb2); (try clear hk); (try clear hi)))
                        go_roundg k2
                        case measure => have := HK1.out; have := HK2.out; omega
                        case rel => exact ⟨(x3_2), (wrap64 (x5_2 + 1)), (by first | rfl | (simp; done) | (simp [*]; done)), H', ⟨by have := HK1.out; have := HK2.out; omega⟩, ⟨by (with_reducible repeat (first | apply Kd.S_alloc | apply Kd.S_drewN | apply Kd.S_drew)); exact Kd.S_mono HO_3.out (fun _ hk => trivial)⟩, ⟨by repeat (first | (with_reducible first | exact HB.out | apply below_alloc | apply pw_below_drewN | apply below_drew1) | exact HB.out)⟩⟩
                    · replace c10 := Bool.eq_false_iff.mpr c10
                      subst c10
                      have H1 : (impl_rootsWith.l1 k2 a0 x3_2 x4_1 (wrap64 (x5_2 + 1))) = some r := by rw [if_neg (show ¬ (false = true) by decide)] at H; exact H
                      clear H
                      have H := H1
                      clear H1
                      have H' := Aside0.mk H
                      clear H
                      go_wp2_with (first | ((with_reducible refine gate_dst (N := 53) rfl ?_); refine Kd.R_lit (Kd.int .i64) _ 3 ?hg (N := 53) ?hd (xs := ([wrap64 (-a0), wrap64 (x4_1 + a0), wrap64 ((wrap64 (Int.tdiv (wrap64 ((wrap64 (a0 * a0)) + (wrap64 (x5_2 * x5_2)))) x4_1)) + a0), wrap64 ((wrap64 ((wrap64 (x4_1 + (wrap64 (Int.tdiv (wrap64 ((wrap64 (a0 * a0)) + (wrap64 (x5_2 * x5_2)))) x4_1)))) + a0)) - (wrap64 (2 * x5_2)))] : List Int)) (inner := [.int .i64 (wrap64 (-a0)), .int .i64 (wrap64 (x4_1 + a0)), .int .i64 (wrap64 ((wrap64 (Int.tdiv (wrap64 ((wrap64 (a0 * a0)) + (wrap64 (x5_2 * x5_2)))) x4_1)) + a0)), .int .i64 (wrap64 ((wrap64 ((wrap64 (x4_1 + (wrap64 (Int.tdiv (wrap64 ((wrap64 (a0 * a0)) + (wrap64 (x5_2 * x5_2)))) x4_1)))) + a0)) - (wrap64 (2 * x5_2))))]) (ok := fun _ => True) (okp := fun _ => True) ?hr ?hp (fun _ hk => hk) trivial (Below.refl _ _) (Nat.le_refl _) (by simp) ?_; (case hd => rfl); (case hg => rfl); (case hr => first | (go_simp; done) | (go_simp; rfl)); (case hp => exact (Reps.one (show Kd.M (Kd.int .i64) _ _ _ (wrap64 (-a0)) [.int .i64 (wrap64 (-a0))] from rfl) (Reps.one (show Kd.M (Kd.int .i64) _ _ _ (wrap64 (x4_1 + a0)) [.int .i64 (wrap64 (x4_1 + a0))] from rfl) (Reps.one (show Kd.M (Kd.int .i64) _ _ _ (wrap64 ((wrap64 (Int.tdiv (wrap64 ((wrap64 (a0 * a0)) + (wrap64 (x5_2 * x5_2)))) x4_1)) + a0)) [.int .i64 (wrap64 ((wrap64 (Int.tdiv (wrap64 ((wrap64 (a0 * a0)) + (wrap64 (x5_2 * x5_2)))) x4_1)) + a0))] from rfl) (Reps.one (show Kd.M (Kd.int .i64) _ _ _ (wrap64 ((wrap64 ((wrap64 (x4_1 + (wrap64 (Int.tdiv (wrap64 ((wrap64 (a0 * a0)) + (wrap64 (x5_2 * x5_2)))) x4_1)))) + a0)) - (wrap64 (2 * x5_2)))) [.int .i64 (wrap64 ((wrap64 ((wrap64 (x4_1 + (wrap64 (Int.tdiv (wrap64 ((wrap64 (a0 * a0)) + (wrap64 (x5_2 * x5_2)))) x4_1)))) + a0)) - (wrap64 (2 * x5_2))))] from rfl) (Reps.none _ _)))))); intro v754 w36 ho37 hb hg_ hnew_; clear hg_ hnew_; (first | rw [← Ny753.out] at ho37 | (simp only [Int.reduceToNat] at ho37; rw [← Ny753.out] at ho37)); have n0_ := Aside0.mk (Kd.S_elder' (by (with_reducible repeat (first | apply Kd.S_alloc | apply Kd.S_drewN | apply Kd.S_drew)); exact HO_3.out) (Kd.R_base ho37) hb); have n1_ := Aside0.mk (Kd.R_lower ho37 (below_size (by repeat (first | (with_reducible first | exact HB.out | apply below_alloc | apply pw_below_drewN | apply below_drew1) | exact HB.out)))); have n2_ := Aside0.mk (below_step (by repeat (first | (with_reducible first | exact HB.out | apply below_alloc | apply pw_below_drewN | apply below_drew1) | exact HB.out)) hb); clear HO_3; clear HB; have HO_3 := n0_; have HO755 := n1_; have HB := n2_; clear n0_ n1_ n2_; clear hb ho37; obtain ⟨Ao38, co38, eo38⟩ := Kd.R_slice HO755.out; subst eo38) | (go_at_call 21; (with_reducible refine (impl_IsQuad.calls k2 _ _ y753 false _ ?side1 ?side2 A9.out).mono ?_); (case side1 => repeat (first | exact (Kd.R_reads' HO755.out).2.2 | (with_reducible refine Kd.C_alloc ?_ _) | (with_reducible refine Kd.C_drewN ?_ _) | (with_reducible refine Kd.C_drew ?_))); (case side2 => exact (Kd.R_reads' HO755.out).2.1); rintro e w39 ⟨rfl, hb⟩; have n0_ := Aside0.mk (Kd.S_below (by (with_reducible repeat (first | apply Kd.S_alloc | apply Kd.S_drewN | apply Kd.S_drew)); exact HO_3.out) hb); have n1_ := Aside0.mk (Kd.R_below (by (with_reducible repeat (first | apply Kd.R_alloc | apply Kd.R_drewN | apply Kd.R_drew)); exact HO755.out) hb); have n2_ := Aside0.mk (below_step (by repeat (first | (with_reducible first | exact HB.out | apply below_alloc | apply pw_below_drewN | apply below_drew1) | exact HB.out)) hb); clear HO_3; clear HO755; clear HB; have HO_3 := n0_; have HO755 := n1_; have HB := n2_; clear n0_ n1_ n2_; (try clear hb); (try clear hb2); (try clear hk); (try clear hi)))
                      go_roundg k2
                      case measure => have := HK1.out; have := HK2.out; omega
                      case rel => exact ⟨(x3_2), (wrap64 (x5_2 + 1)), (by first | rfl | (simp; done) | (simp [*]; done)), H', ⟨by have := HK1.out; have := HK2.out; omega⟩, ⟨by (with_reducible repeat (first | apply Kd.S_alloc | apply Kd.S_drewN | apply Kd.S_drew)); exact Kd.S_mono HO_3.out (fun _ hk => trivial)⟩, ⟨by repeat (first | (with_reducible first | exact HB.out | apply below_alloc | apply pw_below_drewN | apply below_drew1) | exact HB.out)⟩⟩
                  · rw [if_neg c8] at H
                    have c8b0 : decide (x4_1 ≤ (wrap64 (Int.tdiv (wrap64 ((wrap64 (a0 * a0)) + (wrap64 (x5_2 * x5_2)))) x4_1))) = false := decide_eq_false c8
                    clear c8
                    have H' := Aside0.mk H
                    clear H
                    go_wp2_with (first | ((with_reducible refine gate_dst (N := 53) rfl ?_); refine Kd.R_lit (Kd.int .i64) _ 3 ?hg (N := 53) ?hd (xs := ([wrap64 (-a0), wrap64 (x4_1 + a0), wrap64 ((wrap64 (Int.tdiv (wrap64 ((wrap64 (a0 * a0)) + (wrap64 (x5_2 * x5_2)))) x4_1)) + a0), wrap64 ((wrap64 ((wrap64 (x4_1 + (wrap64 (Int.tdiv (wrap64 ((wrap64 (a0 * a0)) + (wrap64 (x5_2 * x5_2)))) x4_1)))) + a0)) - (wrap64 (2 * x5_2)))] : List Int)) (inner := [.int .i64 (wrap64 (-a0)), .int .i64 (wrap64 (x4_1 + a0)), .int .i64 (wrap64 ((wrap64 (Int.tdiv (wrap64 ((wrap64 (a0 * a0)) + (wrap64 (x5_2 * x5_2)))) x4_1)) + a0)), .int .i64 (wrap64 ((wrap64 ((wrap64 (x4_1 + (wrap64 (Int.tdiv (wrap64 ((wrap64 (a0 * a0)) + (wrap64 (x5_2 * x5_2)))) x4_1)))) + a0)) - (wrap64 (2 * x5_2))))]) (ok := fun _ => True) (okp := fun _ => True) ?hr ?hp (fun _ hk => hk) trivial (Below.refl _ _) (Nat.le_refl _) (by simp) ?_; (case hd => rfl); (case hg => rfl); (case hr => first | (go_simp; done) | (go_simp; rfl)); (case hp => exact (Reps.one (show Kd.M (Kd.int .i64) _ _ _ (wrap64 (-a0)) [.int .i64 (wrap64 (-a0))] from rfl) (Reps.one (show Kd.M (Kd.int .i64) _ _ _ (wrap64 (x4_1 + a0)) [.int .i64 (wrap64 (x4_1 + a0))] from rfl) (Reps.one (show Kd.M (Kd.int .i64) _ _ _ (wrap64 ((wrap64 (Int.tdiv (wrap64 ((wrap64 (a0 * a0)) + (wrap64 (x5_2 * x5_2)))) x4_1)) + a0)) [.int .i64 (wrap64 ((wrap64 (Int.tdiv (wrap64 ((wrap64 (a0 * a0)) + (wrap64 (x5_2 * x5_2)))) x4_1)) + a0))] from rfl) (Reps.one (show Kd.M (Kd.int .i64) _ _ _ (wrap64 ((wrap64 ((wrap64 (x4_1 + (wrap64 (Int.tdiv (wrap64 ((wrap64 (a0 * a0)) + (wrap64 (x5_2 * x5_2)))) x4_1)))) + a0)) - (wrap64 (2 * x5_2)))) [.int .i64 (wrap64 ((wrap64 ((wrap64 (x4_1 + (wrap64 (Int.tdiv (wrap64 ((wrap64 (a0 * a0)) + (wrap64 (x5_2 * x5_2)))) x4_1)))) + a0)) - (wrap64 (2 * x5_2))))] from rfl) (Reps.none _ _)))))); intro v754 w40 ho41 hb hg_ hnew_; clear hg_ hnew_; (first | rw [← Ny753.out] at ho41 | (simp only [Int.reduceToNat] at ho41; rw [← Ny753.out] at ho41)); have n0_ := Aside0.mk (Kd.S_elder' (by (with_reducible repeat (first | apply Kd.S_alloc | apply Kd.S_drewN | apply Kd.S_drew)); exact HO_3.out) (Kd.R_base ho41) hb); have n1_ := Aside0.mk (Kd.R_lower ho41 (below_size (by repeat (first | (with_reducible first | exact HB.out | apply below_alloc | apply pw_below_drewN | apply below_drew1) | exact HB.out)))); have n2_ := Aside0.mk (below_step (by repeat (first | (with_reducible first | exact HB.out | apply below_alloc | apply pw_below_drewN | apply below_drew1) | exact HB.out)) hb); clear HO_3; clear HB; have HO_3 := n0_; have HO755 := n1_; have HB := n2_; clear n0_ n1_ n2_; clear hb ho41))
                    go_roundg k2
                    case measure => have := HK1.out; have := HK2.out; omega
                    case rel => exact ⟨(x3_2), (wrap64 (x5_2 + 1)), (by first | rfl | (simp; done) | (simp [*]; done)), H', ⟨by have := HK1.out; have := HK2.out; omega⟩, ⟨by (with_reducible repeat (first | apply Kd.S_alloc | apply Kd.S_drewN | apply Kd.S_drew)); exact Kd.S_mono HO_3.out (fun _ hk => trivial)⟩, ⟨by repeat (first | (with_reducible first | exact HB.out | apply below_alloc | apply pw_below_drewN | apply below_drew1) | exact HB.out)⟩⟩
                · rw [if_neg c7] at H
                  have c7b0 : ((Int.tmod (wrap64 ((wrap64 (a0 * a0)) + (wrap64 (x5_2 * x5_2)))) x4_1) == 0) = false := beq_eq_false_iff_ne.mpr c7
                  have c7b1 : ((Int.tmod (wrap64 ((wrap64 (a0 * a0)) + (wrap64 (x5_2 * x5_2)))) x4_1) != 0) = true := bne_iff_ne.mpr c7
                  have H' := Aside0.mk H
                  clear H
                  go_wp2_with (first | ((with_reducible refine gate_dst (N := 53) rfl ?_); refine Kd.R_lit (Kd.int .i64) _ 3 ?hg (N := 53) ?hd (xs := ([wrap64 (-a0), wrap64 (x4_1 + a0), wrap64 ((wrap64 (Int.tdiv (wrap64 ((wrap64 (a0 * a0)) + (wrap64 (x5_2 * x5_2)))) x4_1)) + a0), wrap64 ((wrap64 ((wrap64 (x4_1 + (wrap64 (Int.tdiv (wrap64 ((wrap64 (a0 * a0)) + (wrap64 (x5_2 * x5_2)))) x4_1)))) + a0)) - (wrap64 (2 * x5_2)))] : List Int)) (inner := [.int .i64 (wrap64 (-a0)), .int .i64 (wrap64 (x4_1 + a0)), .int .i64 (wrap64 ((wrap64 (Int.tdiv (wrap64 ((wrap64 (a0 * a0)) + (wrap64 (x5_2 * x5_2)))) x4_1)) + a0)), .int .i64 (wrap64 ((wrap64 ((wrap64 (x4_1 + (wrap64 (Int.tdiv (wrap64 ((wrap64 (a0 * a0)) + (wrap64 (x5_2 * x5_2)))) x4_1)))) + a0)) - (wrap64 (2 * x5_2))))]) (ok := fun _ => True) (okp := fun _ => True) ?hr ?hp (fun _ hk => hk) trivial (Below.refl _ _) (Nat.le_refl _) (by simp) ?_; (case hd => rfl); (case hg => rfl); (case hr => first | (go_simp; done) | (go_simp; rfl)); (case hp => exact (Reps.one (show Kd.M (Kd.int .i64) _ _ _ (wrap64 (-a0)) [.int .i64 (wrap64 (-a0))] from rfl) (Reps.one (show Kd.M (Kd.int .i64) _ _ _ (wrap64 (x4_1 + a0)) [.int .i64 (wrap64 (x4_1 + a0))] from rfl) (Reps.one (show Kd.M (Kd.int .i64) _ _ _ (wrap64 ((wrap64 (Int.tdiv (wrap64 ((wrap64 (a0 * a0)) + (wrap64 (x5_2 * x5_2)))) x4_1)) + a0)) [.int .i64 (wrap64 ((wrap64 (Int.tdiv (wrap64 ((wrap64 (a0 * a0)) + (wrap64 (x5_2 * x5_2)))) x4_1)) + a0))] from rfl) (Reps.one (show Kd.M (Kd.int .i64) _ _ _ (wrap64 ((wrap64 ((wrap64 (x4_1 + (wrap64 (Int.tdiv (wrap64 ((wrap64 (a0 * a0)) + (wrap64 (x5_2 * x5_2)))) x4_1)))) + a0)) - (wrap64 (2 * x5_2)))) [.int .i64 (wrap64 ((wrap64 ((wrap64 (x4_1 + (wrap64 (Int.tdiv (wrap64 ((wrap64 (a0 * a0)) + (wrap64 (x5_2 * x5_2)))) x4_1)))) + a0)) - (wrap64 (2 * x5_2))))] from rfl) (Reps.none _ _)))))); intro v754 w42 ho43 hb hg_ hnew_; clear hg_ hnew_; (first | rw [← Ny753.out] at ho43 | (simp only [Int.reduceToNat] at ho43; rw [← Ny753.out] at ho43)); have n0_ := Aside0.mk (Kd.S_elder' (by (with_reducible repeat (first | apply Kd.S_alloc | apply Kd.S_drewN | apply Kd.S_drew)); exact HO_3.out) (Kd.R_base ho43) hb); have n1_ := Aside0.mk (Kd.R_lower ho43 (below_size (by repeat (first | (with_reducible first | exact HB.out | apply below_alloc | apply pw_below_drewN | apply below_drew1) | exact HB.out)))); have n2_ := Aside0.mk (below_step (by repeat (first | (with_reducible first | exact HB.out | apply below_alloc | apply pw_below_drewN | apply below_drew1) | exact HB.out)) hb); clear HO_3; clear HB; have HO_3 := n0_; have HO755 := n1_; have HB := n2_; clear n0_ n1_ n2_; clear hb ho43))
                  go_roundg k2
                  case measure => have := HK1.out; have := HK2.out; omega
                  case rel => exact ⟨(x3_2), (wrap64 (x5_2 + 1)), (by first | rfl | (simp; done) | (simp [*]; done)), H', ⟨by have := HK1.out; have := HK2.out; omega⟩, ⟨by (with_reducible repeat (first | apply Kd.S_alloc | apply Kd.S_drewN | apply Kd.S_drew)); exact Kd.S_mono HO_3.out (fun _ hk => trivial)⟩, ⟨by repeat (first | (with_reducible first | exact HB.out | apply below_alloc | apply pw_below_drewN | apply below_drew1) | exact HB.out)⟩⟩
            · rw [if_neg c5] at H
              have c5b0 : decide ((wrap64 (2 * x5_2)) ≤ x4_1) = false := decide_eq_false c5
              clear c5
              have H' := Aside0.mk H
              clear H
              go_wp2
              go_roundg k2
              case measure => have := HK1.out; have := HK2.out; omega
              case rel => exact ⟨(x3_2), (wrap64 (x4_1 + 1)), (by first | rfl | (simp; done) | (simp [*]; done)), H', ⟨by have := HK1.out; have := HK2.out; omega⟩, ⟨by (with_reducible repeat (first | apply Kd.S_alloc | apply Kd.S_drewN | apply Kd.S_drew)); exact HO_3.out⟩, ⟨by repeat (first | (with_reducible first | exact HB.out | apply below_alloc | apply pw_below_drewN | apply below_drew1) | exact HB.out)⟩⟩
      · rw [if_neg c4] at H
        have c4b0 : decide ((wrap64 ((wrap64 (3 * x4_1)) * x4_1)) ≤ (wrap64 ((wrap64 (4 * a0)) * a0))) = false := decide_eq_false c4
        clear c4
        obtain ⟨m_, hs_, hc_⟩ := Option.bind_eq_some_iff.mp H
        have HSF := Aside0.mk hs_
        have HCF := Aside0.mk hc_
        clear H hs_ hc_
        go_wp2_with (first | (go_at_call 113; (with_reducible refine (slices_SortFunc_int_int.calls (fun _ => True) _ _ _ w _ HB.out HO_3.out HSF.out).mono ?_); rintro e w5 ⟨rfl, hs5, hb5, -⟩; have HS5 := Aside0.mk (Kd.S_mono (ok' := fun _ => True) hs5 (fun _ _ => trivial)); have HB5 := Aside0.mk hb5; clear hs5 hb5) | (go_at_call 115; (with_reducible refine (slices_CompactFunc_int_int.calls (fun _ => True) _ _ _ w _ HB5.out HS5.out HCF.out).mono ?_); rintro e w6 ⟨v6, rfl, hs6, hb6, -⟩; have HS6 := Aside0.mk (Kd.S_mono (ok' := fun _ => True) hs6 (fun _ _ => trivial)); have HB6 := Aside0.mk hb6; clear hs6 hb6))
        go_ret
        exact ⟨_, rfl, HS6.out, HB6.out⟩

/-! ### impl_RootsWith: function 58 -/
def impl_RootsWith.f (k : Nat) (a0 : Int) : Option ((List (List Int)) × Bool) := (impl_within.f a0 1 30).bind fun t763 => (if t763 = true then ((impl_rootsWith.f k a0).bind fun t764 => ((slices_Clone_int_int_96.f t764).bind fun t9_ => (some (t9_, true)))) else (some (([] : List (List Int)), false)))
theorem impl_RootsWith.mono : ∀ a0 k, LeO (impl_RootsWith.f k a0) (impl_RootsWith.f (k + 1) a0) := by
  intro a0 k
  unfold impl_RootsWith.f
  repeat' first
      | (with_reducible exact impl_rootsWith.mono _ _)
      | (with_reducible exact LeO.refl _)
      | (with_reducible exact LeO.none _)
      | (with_reducible refine LeO.ite ?_ ?_)
      | (with_reducible refine LeO.bind ?_ (fun _ => ?_))
      | exact impl_rootsWith.mono _ _
      | exact LeO.none _
      | refine LeO.ite ?_ ?_
      | refine LeO.bind ?_ (fun _ => ?_)
set_option maxHeartbeats 8000000 in
set_option maxRecDepth 100000 in
theorem impl_RootsWith.calls (k : Nat) (a0 : Int) (r1 : List (List Int)) (r2 : Bool) (w : World) (h : impl_RootsWith.f k a0 = some (r1, r2)) :
    Calls Try.prog 58 #[.int .i64 a0] w fun e w' => ∃ v0_ : Value, e = .returned (.tuple #[v0_, .bool r2]) ∧ Kd.S (Kd.slice 3 (Kd.int .i64)) 22 w' w.heap.size (fun _ => True) v0_ r1 ∧ Below w.heap.size w w' := by
  have HB := Aside0.mk (Below.refl w.heap.size w)
  have H : ((impl_within.f a0 1 30).bind fun t763 => (if t763 = true then ((impl_rootsWith.f k a0).bind fun t764 => ((slices_Clone_int_int_96.f t764).bind fun t9_ => (some (t9_, true)))) else (some (([] : List (List Int)), false)))) = some (r1, r2) := h
  clear h
  replace H := Option.bind_eq_some_iff.mp H
  obtain ⟨t763, A20, H⟩ := H
  replace H : (if t763 = true then ((impl_rootsWith.f k a0).bind fun t764 => ((slices_Clone_int_int_96.f t764).bind fun t9_ => (some (t9_, true)))) else (some (([] : List (List Int)), false))) = some (r1, r2) := H
  have A2 := Aside0.mk A20
  clear A20
  by_cases c3 : t763 = true
  · subst c3
    have H1 : ((impl_rootsWith.f k a0).bind fun t764 => ((slices_Clone_int_int_96.f t764).bind fun t9_ => (some (t9_, true)))) = some (r1, r2) := by rw [if_pos rfl] at H; exact H
    clear H
    have H := H1
    clear H1
    replace H := Option.bind_eq_some_iff.mp H
    obtain ⟨t764, A40, H⟩ := H
    replace H : ((slices_Clone_int_int_96.f t764).bind fun t9_ => (some (t9_, true))) = some (r1, r2) := H
    have A4 := Aside0.mk A40
    clear A40
    obtain ⟨t9_, hc_, H⟩ := Option.bind_eq_some_iff.mp H
    have HCL := Aside0.mk hc_
    clear hc_
    simp only [Option.some.injEq, Prod.mk.injEq] at H
    obtain ⟨rfl, rfl⟩ := H
    go_enter Try.func58, Try.ntmps58
    go_wp2_with (first | ((with_reducible refine gate_callee (f := 95) rfl ?_); refine goesL_ (some 5) rfl rfl Try.func95 (by kernel_rfl) rfl #[.int .i64 a0, .int .i64 1, .int .i64 30] rfl (by (try simp only [List.map_toArray, List.map_cons, List.map_nil]); first | done | rfl | (simp only [List.length_drop, List.length_take]; rfl)) ?_; (with_reducible refine (impl_within.calls a0 1 30 true _ A2.out).mono ?_); rintro e w' ⟨rfl, ⟨nd, rfl⟩⟩; refine ⟨_, rfl, ?_⟩) | ((with_reducible refine gate_callee (f := 97) rfl ?_); refine goesL_ (some 8) rfl rfl Try.func97 (by kernel_rfl) rfl #[.int .i64 a0] rfl (by (try simp only [List.map_toArray, List.map_cons, List.map_nil]); first | done | rfl | (simp only [List.length_drop, List.length_take]; rfl)) ?_; (with_reducible refine (impl_rootsWith.calls k a0 t764 _ A4.out).mono ?_); rintro e w5 ⟨v765, rfl, ho0, hb⟩; refine ⟨_, rfl, ?_⟩; have n0_ := Aside0.mk (Kd.S_lower ho0 (below_size (by repeat (first | (with_reducible first | exact HB.out | apply below_alloc | apply pw_below_drewN | apply below_drew1) | exact HB.out)))); have n1_ := Aside0.mk (below_step (by repeat (first | (with_reducible first | exact HB.out | apply below_alloc | apply pw_below_drewN | apply below_drew1) | exact HB.out)) hb); clear HB; have HO766 := n0_; have HB := n1_; clear n0_ n1_; (try clear hb); (try clear hb2); (try clear hk); (try clear hi); (try clear ho0)) | (go_at_call 96; (with_reducible refine (slices_Clone_int_int_96.calls (fun _ => True) _ _ _ w _ HB.out HO766.out HCL.out).mono ?_); rintro e w6 ⟨v6, rfl, hs6, hb6, -⟩; have HS6 := Aside0.mk (Kd.S_mono (ok' := fun _ => True) hs6 (fun _ _ => trivial)); have HB6 := Aside0.mk hb6; clear hs6 hb6; obtain ⟨A6_, c6_, e6_⟩ := Kd.S_slice HS6.out; subst e6_))
    go_ret2
    exact ⟨_, rfl, HS6.out, HB6.out⟩
  · replace c3 := Bool.eq_false_iff.mpr c3
    subst c3
    have H1 : (some (([] : List (List Int)), false)) = some (r1, r2) := by rw [if_neg (show ¬ (false = true) by decide)] at H; exact H
    clear H
    have H := H1
    clear H1
    simp only [Option.some.injEq, Prod.mk.injEq] at H
    obtain ⟨rfl, rfl⟩ := H
    go_enter Try.func58, Try.ntmps58
    go_wp2_with (first | ((with_reducible refine gate_callee (f := 95) rfl ?_); refine goesL_ (some 5) rfl rfl Try.func95 (by kernel_rfl) rfl #[.int .i64 a0, .int .i64 1, .int .i64 30] rfl (by (try simp only [List.map_toArray, List.map_cons, List.map_nil]); first | done | rfl | (simp only [List.length_drop, List.length_take]; rfl)) ?_; (with_reducible refine (impl_within.calls a0 1 30 false _ A2.out).mono ?_); rintro e w' ⟨rfl, ⟨nd, rfl⟩⟩; refine ⟨_, rfl, ?_⟩))
    go_ret2
    exact ⟨_, by first | rfl | (simp [errW_none, errW_some] <;> rfl) | (simp [*, errW_none, errW_some] <;> rfl), by first | exact Kd.S_nil _ _ _ _ _ | exact Kd.N_nil _ _ _ _ _ | exact Kd.V_nil _ _ _ _ _ | exact Kd.Q_nil _ _ _ _ _ | exact Kd.R_nil _ _ _ _ _, by repeat (first | (with_reducible first | exact HB.out | apply below_alloc | apply pw_below_drewN | apply below_drew1) | exact HB.out)⟩

/-! ### laws_FnExactRootsWith: function 17 -/
def laws_FnExactRootsWith.Pure : Prop := ∀ (a0 : Int), (Lit.int .i64 a0).wf = true →
  ∃ k r b, spec_RootsWith.f k a0 = some (r, b) ∧ impl_RootsWith.f k a0 = some (r, b) ∧ (r.length : Int) ≤ 9223372036854775806 ∧ (cellsOf r : Int) + 1 ≤ 4611686018427387904
set_option maxHeartbeats 8000000 in
set_option maxRecDepth 100000 in
theorem laws_FnExactRootsWith.walk (P : laws_FnExactRootsWith.Pure) (a0 : Int) (w : World) (w0_ : (Lit.int .i64 a0).wf = true) :
    Calls Try.prog 17 #[.int .i64 a0] w fun e w' => e = .returned (.bool true) ∧ Below w.heap.size w w' := by
  obtain ⟨k, r, b, HS0, HI0, hl, hc⟩ := P a0 w0_
  have HS := Aside0.mk HS0
  have HI := Aside0.mk HI0
  have HE := Aside0.mk (eqIntSS_refl r hl (by omega) (r.length + cellsOf r + 2) (by omega))
  have HM := Aside0.mk (markIntSS_f r (r.length + cellsOf r + 2) (by omega) hl hc)
  have HH := Aside0.mk (heldIntSS_f r (r.length + cellsOf r + 2) (by omega) hl hc)
  have HML := Aside0.mk (mkS_length r 1)
  have hm0 : (0 : Int) ≤ cellsOf r := by omega
  have hm1 : (cellsOf r : Int) ≤ 4611686018427387904 := by omega
  have HP := Aside0.mk P
  clear HS0 HI0 hl hc P w0_
  replace HP := Aside0.mk trivial
  generalize mkS 1 r = r2 at HM HH HML
  generalize hcc : (cellsOf r : Int) = c at HM HH hm0 hm1
  clear hcc
  go_enter Try.func17, Try.ntmps17
  go_wp2_with fail
  refine (spec_RootsWith.calls k a0 _ _ _ HS.out).mono ?_
  rintro e w1 ⟨vw, rfl, hw1, hb1⟩
  replace hw1 := Aside0.mk (show Kd.N (Kd.slice 3 (Kd.int .i64)) 22 w1 w.heap.size (fun _ => True) vw r from by first | exact Kd.N_mono hw1 (fun _ _ => trivial) | exact Kd.N_mono (Kd.S_N hw1) (fun _ _ => trivial) | exact Kd.N_mono (Kd.R_N hw1) (fun _ _ => trivial))
  replace hb1 := Aside0.mk hb1
  obtain ⟨Aw, cw, ew⟩ := Kd.N_slice hw1.out
  subst ew
  go_wp2_with fail
  refine (impl_RootsWith.calls k a0 _ _ _ HI.out).mono ?_
  rintro e w2 ⟨vg, rfl, hw2, hb2⟩
  replace hw2 := Aside0.mk (show Kd.S (Kd.slice 3 (Kd.int .i64)) 22 w2 w1.heap.size (fun k_ => w1.heap.size ≤ k_) vg r from Kd.S_mono (Kd.S_bound hw2) (fun _ hk => hk.2.1))
  replace hb2 := Aside0.mk hb2
  obtain ⟨Ag, cg, eg⟩ := Kd.R_slice (Kd.S_R hw2.out)
  subst eg
  have heq2 := laws_eqIntSS.calls (r.length + cellsOf r + 2) Ag cg r Aw cw r true w2 (Kd.S_reads' hw2.out).2.2 (Kd.S_reads' hw2.out).2.1 (Kd.N_reads' (Kd.N_below hw1.out hb2.out)).2.2 (Kd.N_reads' hw1.out).2.1 HE.out
  go_wp2_with (go_at_call 46; refine heq2.mono ?_; rintro e w' ⟨rfl, ⟨nd, rfl⟩⟩; clear heq2)
  have hmk := laws_markIntSS.calls (r.length + cellsOf r + 2) (fun k_ => w1.heap.size ≤ k_) _ r 1 _ r2 w1 (w2.drewN nd) (pw_below_drewN hb2.out nd) (Kd.S_drewN hw2.out nd) HM.out
  refine hmk.mono ?_
  clear hmk
  rintro e w3 ⟨rfl, hw3, hb3, -⟩
  replace hw3 := Aside0.mk (show Kd.S (Kd.slice 3 (Kd.int .i64)) 22 w3 w1.heap.size (fun k_ => w1.heap.size ≤ k_) _ r2 from Kd.S_mono (Kd.S_bound hw3) (fun _ hk => hk.2.1))
  replace hb3 := Aside0.mk hb3
  clear hw2 hb2
  have hhd : ∀ W, Below w3.heap.size w3 W → Calls Try.prog 48 #[.slice Ag r.length cg, .int .i64 1] W fun e w' => e = .returned (.int .i64 (1 + c)) ∧ Drawn0 W w' := fun W hW => by
    have hS3 := Kd.S_reads' (Kd.S_below hw3.out hW)
    have hcl := laws_heldIntSS.calls (r.length + cellsOf r + 2) Ag cg r2 1 (1 + c) W hS3.2.2 (by rw [← hS3.1]; exact hS3.2.1) HH.out
    rw [← hS3.1] at hcl
    exact hcl
  replace hhd := Aside0.mk hhd
  go_wp2_with (go_at_call 48; refine (hhd.out _ (Below.refl _ _)).mono ?_; rintro e w' ⟨rfl, ⟨nd3, rfl⟩⟩)
  refine (impl_RootsWith.calls k a0 _ _ _ HI.out).mono ?_
  rintro e w4 ⟨vh, rfl, hw4, hb4⟩
  replace hb4 := Aside0.mk (show Below w3.heap.size w3 w4 from (pw_below_drewN (Below.refl _ _) nd3).trans hb4)
  replace hw4 := Aside0.mk (show Kd.N (Kd.slice 3 (Kd.int .i64)) 22 w4 _ (fun _ => True) vh r from by first | exact Kd.N_mono hw4 (fun _ _ => trivial) | exact Kd.N_mono (Kd.S_N hw4) (fun _ _ => trivial) | exact Kd.N_mono (Kd.R_N hw4) (fun _ _ => trivial))
  obtain ⟨Ah, ch, eh⟩ := Kd.N_slice hw4.out
  subst eh
  have heq4 := laws_eqIntSS.calls (r.length + cellsOf r + 2) Ah ch r Aw cw r true w4 (Kd.N_reads' hw4.out).2.2 (Kd.N_reads' hw4.out).2.1 (Kd.N_reads' (Kd.N_below (Kd.N_below hw1.out hb3.out) hb4.out)).2.2 (Kd.N_reads' hw1.out).2.1 HE.out
  go_wp2_with (first | (go_at_call 46; refine heq4.mono ?_; rintro e w' ⟨rfl, ⟨nd4, rfl⟩⟩; clear heq4) | (go_at_call 48; refine (hhd.out _ (by repeat (first | exact hb4.out | apply pw_below_drewN))).mono ?_; rintro e w' ⟨rfl, ⟨nd5, rfl⟩⟩))
  go_ret
  exact ⟨rfl, by repeat (first | exact below_then hb1.out (Nat.le_of_lt_succ (Nat.lt_succ_of_le hb1.out.size)) (below_then hb3.out hb3.out.size hb4.out) | apply pw_below_drewN)⟩

end Go.Proofs.Ytmjodkckffmnaaa.P
