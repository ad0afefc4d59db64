/- Written by a program of this session: for Go functions that a statement reaches, Lean functions with the same answers and the proofs that the calls come to them; conditions: none but the arguments' kinds. -/
import Derived.Test.YtmjodkckffmnaaaP0
import Derived.Test.YtmjodkckffmnaaaP1
import Derived.Test.YtmjodkckffmnaaaP8
import Derived.Test.YtmjodkckffmnaaaP29
namespace Go.Proofs.Ytmjodkckffmnaaa.P
open Go.RowKit Go.Proofs.YtmjodkckffmnaaaW.PrintWords Go.Proofs.YtmjodkckffmnaaaW.PrintLast Go.Proofs.YtmjodkckffmnaaaW.PrintMore
attribute [local go_sem] max2_int min2_int max_two min_two max_three min_three max_four min_four   -- for this text's walks alone
set_option linter.unusedVariables false
set_option linter.unusedSimpArgs false

/-! ### spec_apRoots: function 94 -/
mutual
def spec_apRoots.l0 : Nat → Int → List (List Int) → Int → Option ((List (List Int)))
  | 0, _, _, _ => none
  | k + 1, x0, x3, x4 => if x4 < (wrap64 (3 * x0)) then (spec_apRoots.l1 k x0 x3 x4 x4) else (some x3)
def spec_apRoots.l1 : Nat → Int → List (List Int) → Int → Int → Option ((List (List Int)))
  | 0, _, _, _, _ => none
  | k + 1, x0, x3, x4, x5 => if (wrap64 (4 * (wrap64 ((wrap64 (x4 * x5)) - (wrap64 (x0 * (wrap64 (x4 + x5)))))))) > (wrap64 ((wrap64 (x4 - x0)) * (wrap64 (x4 - x0)))) then (spec_apRoots.l0 k x0 x3 (wrap64 (x4 + 1))) else (if (wrap64 ((wrap64 (x4 * x5)) - (wrap64 (x0 * (wrap64 (x4 + x5)))))) < 0 then (spec_apRoots.l1 k x0 x3 x4 (wrap64 (x5 + 1))) else ((spec_foRoot.f k (wrap64 ((wrap64 (x4 * x5)) - (wrap64 (x0 * (wrap64 (x4 + x5))))))).bind fun t730 => ((some (([wrap64 (-x0), x4, x5, wrap64 ((wrap64 ((wrap64 (x4 + x5)) - x0)) - (wrap64 (2 * t730)))] : List Int) : List Int)).bind fun y731 => (if (wrap64 (t730 * t730)) = (wrap64 ((wrap64 (x4 * x5)) - (wrap64 (x0 * (wrap64 (x4 + x5)))))) then ((spec_apGood.f k y731).bind fun t734 => (if t734 = true then ((spec_apScale.f k y731).bind fun t735 => (if t735 = 1 then (if x3.length < 5864062014805 then (spec_apRoots.l1 k x0 (x3 ++ [y731]) x4 (wrap64 (x5 + 1))) else (none)) else (spec_apRoots.l1 k x0 x3 x4 (wrap64 (x5 + 1))))) else (spec_apRoots.l1 k x0 x3 x4 (wrap64 (x5 + 1))))) else (spec_apRoots.l1 k x0 x3 x4 (wrap64 (x5 + 1)))))))
end
def spec_apRoots.f (k : Nat) (a0 : Int) : Option ((List (List Int))) := spec_apRoots.l0 k a0 ([] : List (List Int)) (wrap64 (a0 + 1))
theorem spec_apRoots.mono_l : ∀ k, (∀ y0 y1 y2, LeO (spec_apRoots.l0 k y0 y1 y2) (spec_apRoots.l0 (k + 1) y0 y1 y2)) ∧ (∀ y0 y1 y2 y3, LeO (spec_apRoots.l1 k y0 y1 y2 y3) (spec_apRoots.l1 (k + 1) y0 y1 y2 y3))
  | 0 => ⟨fun _ _ _ r h => by simp [spec_apRoots.l0] at h, fun _ _ _ _ r h => by simp [spec_apRoots.l1] at h⟩
  | k + 1 => by
    obtain ⟨ih0, ih1⟩ := spec_apRoots.mono_l k
    refine ⟨?_, ?_⟩
    · intro y0 y1 y2
      unfold spec_apRoots.l0
      repeat' first
      | (with_reducible exact ih0 _ _ _)
      | (with_reducible exact ih1 _ _ _ _)
      | (with_reducible exact spec_apGood.mono _ _)
      | (with_reducible exact spec_apScale.mono _ _)
      | (with_reducible exact spec_foRoot.mono _ _)
      | (with_reducible exact LeO.refl _)
      | (with_reducible exact LeO.none _)
      | (with_reducible refine LeO.ite ?_ ?_)
      | (with_reducible refine LeO.bind ?_ (fun _ => ?_))
      | exact ih0 _ _ _
      | exact ih1 _ _ _ _
      | exact spec_apGood.mono _ _
      | exact spec_apScale.mono _ _
      | exact spec_foRoot.mono _ _
      | exact LeO.none _
      | refine LeO.ite ?_ ?_
      | refine LeO.bind ?_ (fun _ => ?_)
    · intro y0 y1 y2 y3
      unfold spec_apRoots.l1
      repeat' first
      | (with_reducible exact ih0 _ _ _)
      | (with_reducible exact ih1 _ _ _ _)
      | (with_reducible exact spec_apGood.mono _ _)
      | (with_reducible exact spec_apScale.mono _ _)
      | (with_reducible exact spec_foRoot.mono _ _)
      | (with_reducible exact LeO.refl _)
      | (with_reducible exact LeO.none _)
      | (with_reducible refine LeO.ite ?_ ?_)
      | (with_reducible refine LeO.bind ?_ (fun _ => ?_))
      | exact ih0 _ _ _
      | exact ih1 _ _ _ _
      | exact spec_apGood.mono _ _
      | exact spec_apScale.mono _ _
      | exact spec_foRoot.mono _ _
      | exact LeO.none _
      | refine LeO.ite ?_ ?_
      | refine LeO.bind ?_ (fun _ => ?_)
theorem spec_apRoots.mono : ∀ a0 k, LeO (spec_apRoots.f k a0) (spec_apRoots.f (k + 1) a0) := by
  intro a0 k
  obtain ⟨ih0, ih1⟩ := spec_apRoots.mono_l k
  unfold spec_apRoots.f
  repeat' first
      | (with_reducible exact ih0 _ _ _)
      | (with_reducible exact ih1 _ _ _ _)
      | (with_reducible exact spec_apGood.mono _ _)
      | (with_reducible exact spec_apScale.mono _ _)
      | (with_reducible exact spec_foRoot.mono _ _)
      | (with_reducible exact LeO.refl _)
      | (with_reducible exact LeO.none _)
      | (with_reducible refine LeO.ite ?_ ?_)
      | (with_reducible refine LeO.bind ?_ (fun _ => ?_))
      | exact ih0 _ _ _
      | exact ih1 _ _ _ _
      | exact spec_apGood.mono _ _
      | exact spec_apScale.mono _ _
      | exact spec_foRoot.mono _ _
      | exact LeO.none _
      | refine LeO.ite ?_ ?_
      | refine LeO.bind ?_ (fun _ => ?_)
set_option maxHeartbeats 8000000 in
set_option maxRecDepth 100000 in
theorem spec_apRoots.calls (k : Nat) (a0 : Int) (r : List (List Int)) (w : World) (h : spec_apRoots.f k a0 = some r) :
    Calls Try.prog 94 #[.int .i64 a0] w fun e w' => ∃ v0_ : Value, e = .returned (v0_) ∧ Kd.S (Kd.slice 3 (Kd.int .i64)) 22 w' w.heap.size (fun _ => True) v0_ r ∧ Below w.heap.size w w' := by
  have HB := Aside0.mk (Below.refl w.heap.size w)
  have H : (spec_apRoots.l0 k a0 ([] : List (List Int)) (wrap64 (a0 + 1))) = some r := h
  clear h
  have H' := Aside0.mk H
  clear H
  go_enter Try.func94, Try.ntmps94
  go_wp2
  go_loopg [3, 4] k (fun kq v3 v4 w' => ∃ (x3_1 : List (List Int)) (x4_1 : Int), v4 = .int .i64 x4_1 ∧ Aside0 (spec_apRoots.l0 kq a0 x3_1 x4_1 = some r) ∧ Aside0 (kq ≤ k) ∧ Aside0 (Kd.S (Kd.slice 3 (Kd.int .i64)) 22 w' w.heap.size (fun _ => True) v3 x3_1) ∧ Aside0 (Below w.heap.size w w'))
  case atStart => exact ⟨(([] : List (List Int))), (wrap64 (a0 + 1)), (by first | rfl | (simp; done) | (simp [*]; done)), H', ⟨Nat.le_refl _⟩, ⟨by first | exact Kd.S_nil _ _ _ _ _ | exact Kd.N_nil _ _ _ _ _ | exact Kd.V_nil _ _ _ _ _ | exact Kd.Q_nil _ _ _ _ _ | exact Kd.R_nil _ _ _ _ _⟩, ⟨by repeat (first | (with_reducible first | exact HB.out | apply below_alloc | apply pw_below_drewN | apply below_drew1) | exact HB.out)⟩⟩
  case round =>
    clear H'
    obtain ⟨x3_1, x4_1, rfl, HA, HK1, HO_3, HB⟩ := hrel
    cases gk with
    | zero => exact absurd HA.out (by simp [spec_apRoots.l0])
    | succ k1 =>
      have H := HA.out
      clear HA
      simp only [spec_apRoots.l0] at H
      by_cases c2 : x4_1 < (wrap64 (3 * a0))
      · rw [if_pos c2] at H
        have c2b0 : decide (x4_1 < (wrap64 (3 * a0))) = true := decide_eq_true c2
        clear c2
        have H' := Aside0.mk H
        clear H
        go_wp2
        go_loopg [3, 5] k1 (fun kq v3 v5 w' => ∃ (x3_2 : List (List Int)) (x5_2 : Int), v5 = .int .i64 x5_2 ∧ Aside0 (spec_apRoots.l1 kq a0 x3_2 x4_1 x5_2 = some r) ∧ Aside0 (kq ≤ k1) ∧ Aside0 (Kd.S (Kd.slice 3 (Kd.int .i64)) 22 w' w.heap.size (fun _ => True) v3 x3_2) ∧ Aside0 (Below w.heap.size w w'))
        case atStart => exact ⟨(x3_1), (x4_1), (by first | rfl | (simp; done) | (simp [*]; done)), H', ⟨Nat.le_refl _⟩, ⟨by (with_reducible repeat (first | apply Kd.S_alloc | apply Kd.S_drewN | apply Kd.S_drew)); exact HO_3.out⟩, ⟨by repeat (first | (with_reducible first | exact HB.out | apply below_alloc | apply pw_below_drewN | apply below_drew1) | exact HB.out)⟩⟩
        case round =>
          clear H'
          try clear c2
          try clear c2b0
          try clear p2
          obtain ⟨x3_2, x5_2, rfl, HA, HK2, HO_3, HB⟩ := hrel
          cases gk with
          | zero => exact absurd HA.out (by simp [spec_apRoots.l1])
          | succ k2 =>
            have H := HA.out
            clear HA
            simp only [spec_apRoots.l1] at H
            by_cases c3 : (wrap64 (4 * (wrap64 ((wrap64 (x4_1 * x5_2)) - (wrap64 (a0 * (wrap64 (x4_1 + x5_2)))))))) > (wrap64 ((wrap64 (x4_1 - a0)) * (wrap64 (x4_1 - a0))))
            · rw [if_pos c3] at H
              have c3b0 : decide ((wrap64 ((wrap64 (x4_1 - a0)) * (wrap64 (x4_1 - a0)))) < (wrap64 (4 * (wrap64 ((wrap64 (x4_1 * x5_2)) - (wrap64 (a0 * (wrap64 (x4_1 + x5_2))))))))) = true := decide_eq_true c3
              clear c3
              have H' := Aside0.mk H
              clear H
              go_wp2
              go_roundg k2
              case measure => have := HK1.out; have := HK2.out; omega
              case rel => exact ⟨(x3_2), (wrap64 (x4_1 + 1)), (by first | rfl | (simp; done) | (simp [*]; done)), H', ⟨by have := HK1.out; have := HK2.out; omega⟩, ⟨by (with_reducible repeat (first | apply Kd.S_alloc | apply Kd.S_drewN | apply Kd.S_drew)); exact HO_3.out⟩, ⟨by repeat (first | (with_reducible first | exact HB.out | apply below_alloc | apply pw_below_drewN | apply below_drew1) | exact HB.out)⟩⟩
            · rw [if_neg c3] at H
              have c3b0 : decide ((wrap64 ((wrap64 (x4_1 - a0)) * (wrap64 (x4_1 - a0)))) < (wrap64 (4 * (wrap64 ((wrap64 (x4_1 * x5_2)) - (wrap64 (a0 * (wrap64 (x4_1 + x5_2))))))))) = false := decide_eq_false c3
              clear c3
              by_cases c4 : (wrap64 ((wrap64 (x4_1 * x5_2)) - (wrap64 (a0 * (wrap64 (x4_1 + x5_2)))))) < 0
              · rw [if_pos c4] at H
                have c4b0 : decide ((wrap64 ((wrap64 (x4_1 * x5_2)) - (wrap64 (a0 * (wrap64 (x4_1 + x5_2)))))) < 0) = true := decide_eq_true c4
                clear c4
                have H' := Aside0.mk H
                clear H
                go_wp2
                go_roundg k2
                case measure => have := HK1.out; have := HK2.out; omega
                case rel => exact ⟨(x3_2), (wrap64 (x5_2 + 1)), (by first | rfl | (simp; done) | (simp [*]; done)), H', ⟨by have := HK1.out; have := HK2.out; omega⟩, ⟨by (with_reducible repeat (first | apply Kd.S_alloc | apply Kd.S_drewN | apply Kd.S_drew)); exact HO_3.out⟩, ⟨by repeat (first | (with_reducible first | exact HB.out | apply below_alloc | apply pw_below_drewN | apply below_drew1) | exact HB.out)⟩⟩
              · rw [if_neg c4] at H
                have c4b0 : decide ((wrap64 ((wrap64 (x4_1 * x5_2)) - (wrap64 (a0 * (wrap64 (x4_1 + x5_2)))))) < 0) = false := decide_eq_false c4
                clear c4
                replace H := Option.bind_eq_some_iff.mp H
                obtain ⟨t730, A50, H⟩ := H
                replace H : ((some (([wrap64 (-a0), x4_1, x5_2, wrap64 ((wrap64 ((wrap64 (x4_1 + x5_2)) - a0)) - (wrap64 (2 * t730)))] : List Int) : List Int)).bind fun y731 => (if (wrap64 (t730 * t730)) = (wrap64 ((wrap64 (x4_1 * x5_2)) - (wrap64 (a0 * (wrap64 (x4_1 + x5_2)))))) then ((spec_apGood.f k2 y731).bind fun t734 => (if t734 = true then ((spec_apScale.f k2 y731).bind fun t735 => (if t735 = 1 then (if x3_2.length < 5864062014805 then (spec_apRoots.l1 k2 a0 (x3_2 ++ [y731]) x4_1 (wrap64 (x5_2 + 1))) else (none)) else (spec_apRoots.l1 k2 a0 x3_2 x4_1 (wrap64 (x5_2 + 1))))) else (spec_apRoots.l1 k2 a0 x3_2 x4_1 (wrap64 (x5_2 + 1))))) else (spec_apRoots.l1 k2 a0 x3_2 x4_1 (wrap64 (x5_2 + 1))))) = some r := H
                have A5 := Aside0.mk A50
                clear A50
                obtain ⟨y731, hy731⟩ : ∃ y_ : List Int, y_ = (([wrap64 (-a0), x4_1, x5_2, wrap64 ((wrap64 ((wrap64 (x4_1 + x5_2)) - a0)) - (wrap64 (2 * t730)))] : List Int)) := ⟨_, rfl⟩
                replace H : (if (wrap64 (t730 * t730)) = (wrap64 ((wrap64 (x4_1 * x5_2)) - (wrap64 (a0 * (wrap64 (x4_1 + x5_2)))))) then ((spec_apGood.f k2 y731).bind fun t734 => (if t734 = true then ((spec_apScale.f k2 y731).bind fun t735 => (if t735 = 1 then (if x3_2.length < 5864062014805 then (spec_apRoots.l1 k2 a0 (x3_2 ++ [y731]) x4_1 (wrap64 (x5_2 + 1))) else (none)) else (spec_apRoots.l1 k2 a0 x3_2 x4_1 (wrap64 (x5_2 + 1))))) else (spec_apRoots.l1 k2 a0 x3_2 x4_1 (wrap64 (x5_2 + 1))))) else (spec_apRoots.l1 k2 a0 x3_2 x4_1 (wrap64 (x5_2 + 1)))) = some r := by first | (rw [hy731]; with_reducible exact H) | (have H2_ := (Option.bind_some _ _).symm.trans H; rw [hy731]; with_reducible exact H2_) | (have H2_ := (Option.bind_some _ _).symm.trans H; with_reducible exact H2_) | with_reducible exact H | (rw [hy731]; exact H) | exact H
                have Ny731 := Aside0.mk hy731
                clear hy731
                by_cases c6 : (wrap64 (t730 * t730)) = (wrap64 ((wrap64 (x4_1 * x5_2)) - (wrap64 (a0 * (wrap64 (x4_1 + x5_2))))))
                · rw [if_pos c6] at H
                  have c6b0 : ((wrap64 (t730 * t730)) == (wrap64 ((wrap64 (x4_1 * x5_2)) - (wrap64 (a0 * (wrap64 (x4_1 + x5_2))))))) = true := beq_iff_eq.mpr c6
                  have c6b1 : ((wrap64 (t730 * t730)) != (wrap64 ((wrap64 (x4_1 * x5_2)) - (wrap64 (a0 * (wrap64 (x4_1 + x5_2))))))) = false := bne_eq_false_iff_eq.mpr c6
                  clear c6
                  replace H := Option.bind_eq_some_iff.mp H
                  obtain ⟨t734, A70, H⟩ := H
                  replace H : (if t734 = true then ((spec_apScale.f k2 y731).bind fun t735 => (if t735 = 1 then (if x3_2.length < 5864062014805 then (spec_apRoots.l1 k2 a0 (x3_2 ++ [y731]) x4_1 (wrap64 (x5_2 + 1))) else (none)) else (spec_apRoots.l1 k2 a0 x3_2 x4_1 (wrap64 (x5_2 + 1))))) else (spec_apRoots.l1 k2 a0 x3_2 x4_1 (wrap64 (x5_2 + 1)))) = some r := H
                  have A7 := Aside0.mk A70
                  clear A70
                  by_cases c8 : t734 = true
                  · subst c8
                    have H1 : ((spec_apScale.f k2 y731).bind fun t735 => (if t735 = 1 then (if x3_2.length < 5864062014805 then (spec_apRoots.l1 k2 a0 (x3_2 ++ [y731]) x4_1 (wrap64 (x5_2 + 1))) else (none)) else (spec_apRoots.l1 k2 a0 x3_2 x4_1 (wrap64 (x5_2 + 1))))) = some r := by rw [if_pos rfl] at H; exact H
                    clear H
                    have H := H1
                    clear H1
                    replace H := Option.bind_eq_some_iff.mp H
                    obtain ⟨t735, A90, H⟩ := H
                    replace H : (if t735 = 1 then (if x3_2.length < 5864062014805 then (spec_apRoots.l1 k2 a0 (x3_2 ++ [y731]) x4_1 (wrap64 (x5_2 + 1))) else (none)) else (spec_apRoots.l1 k2 a0 x3_2 x4_1 (wrap64 (x5_2 + 1)))) = some r := H
                    have A9 := Aside0.mk A90
                    clear A90
                    by_cases c10 : t735 = 1
                    · rw [if_pos c10] at H
                      have c10b0 : (t735 == 1) = true := beq_iff_eq.mpr c10
                      have c10b1 : (t735 != 1) = false := bne_eq_false_iff_eq.mpr c10
                      clear c10
                      by_cases c11 : x3_2.length < 5864062014805
                      · rw [if_pos c11] at H
                        have LMc11 := Aside0.mk c11
                        clear c11
                        obtain ⟨y736, hy736⟩ : ∃ y_ : List (List Int), y_ = (x3_2 ++ [y731]) := ⟨_, rfl⟩
                        replace H : (spec_apRoots.l1 k2 a0 y736 x4_1 (wrap64 (x5_2 + 1))) = some r := by first | (rw [hy736]; with_reducible exact H) | (have H2_ := (Option.bind_some _ _).symm.trans H; rw [hy736]; with_reducible exact H2_) | (have H2_ := (Option.bind_some _ _).symm.trans H; with_reducible exact H2_) | with_reducible exact H | (rw [hy736]; exact H) | exact H
                        have Ny736 := Aside0.mk hy736
                        clear hy736
                        have H' := Aside0.mk H
                        clear H
                        go_wp2_with (first | ((with_reducible refine gate_callee (f := 112) rfl ?_); refine goesL_ (some 42) rfl rfl Try.func112 (by kernel_rfl) rfl #[.int .i64 (wrap64 ((wrap64 (x4_1 * x5_2)) - (wrap64 (a0 * (wrap64 (x4_1 + x5_2))))))] rfl (by (try simp only [List.map_toArray, List.map_cons, List.map_nil]); first | done | rfl | (simp only [List.length_drop, List.length_take]; rfl)) ?_; (with_reducible refine (spec_foRoot.calls k2 (wrap64 ((wrap64 (x4_1 * x5_2)) - (wrap64 (a0 * (wrap64 (x4_1 + x5_2)))))) t730 _ A5.out).mono ?_); rintro e w' ⟨rfl, ⟨nd, rfl⟩⟩; refine ⟨_, rfl, ?_⟩) | ((with_reducible refine gate_dst (N := 55) rfl ?_); refine Kd.R_lit (Kd.int .i64) _ 3 ?hg (N := 55) ?hd (xs := ([wrap64 (-a0), x4_1, x5_2, wrap64 ((wrap64 ((wrap64 (x4_1 + x5_2)) - a0)) - (wrap64 (2 * t730)))] : List Int)) (inner := [.int .i64 (wrap64 (-a0)), .int .i64 x4_1, .int .i64 x5_2, .int .i64 (wrap64 ((wrap64 ((wrap64 (x4_1 + x5_2)) - a0)) - (wrap64 (2 * t730))))]) (ok := fun _ => True) (okp := fun _ => True) ?hr ?hp (fun _ hk => hk) trivial (Below.refl _ _) (Nat.le_refl _) (by simp) ?_; (case hd => rfl); (case hg => rfl); (case hr => first | (go_simp; done) | (go_simp; rfl)); (case hp => exact (Reps.one (show Kd.M (Kd.int .i64) _ _ _ (wrap64 (-a0)) [.int .i64 (wrap64 (-a0))] from rfl) (Reps.one (show Kd.M (Kd.int .i64) _ _ _ x4_1 [.int .i64 x4_1] from rfl) (Reps.one (show Kd.M (Kd.int .i64) _ _ _ x5_2 [.int .i64 x5_2] from rfl) (Reps.one (show Kd.M (Kd.int .i64) _ _ _ (wrap64 ((wrap64 ((wrap64 (x4_1 + x5_2)) - a0)) - (wrap64 (2 * t730)))) [.int .i64 (wrap64 ((wrap64 ((wrap64 (x4_1 + x5_2)) - a0)) - (wrap64 (2 * t730))))] from rfl) (Reps.none _ _)))))); intro v732 w12 ho13 hb hg_ hnew_; clear hg_ hnew_; (first | rw [← Ny731.out] at ho13 | (simp only [Int.reduceToNat] at ho13; rw [← Ny731.out] at ho13)); have n0_ := Aside0.mk (Kd.S_elder' (by (with_reducible repeat (first | apply Kd.S_alloc | apply Kd.S_drewN | apply Kd.S_drew)); exact HO_3.out) (Kd.R_base ho13) hb); have n1_ := Aside0.mk (Kd.R_lower ho13 (below_size (by repeat (first | (with_reducible first | exact HB.out | apply below_alloc | apply pw_below_drewN | apply below_drew1) | exact HB.out)))); have n2_ := Aside0.mk (below_step (by repeat (first | (with_reducible first | exact HB.out | apply below_alloc | apply pw_below_drewN | apply below_drew1) | exact HB.out)) hb); clear HO_3; clear HB; have HO_3 := n0_; have HO733 := n1_; have HB := n2_; clear n0_ n1_ n2_; clear hb ho13; obtain ⟨Ao14, co14, eo14⟩ := Kd.R_slice HO733.out; subst eo14) | (go_at_call 61; (with_reducible refine (spec_apGood.calls k2 _ _ y731 true _ ?side1 ?side2 A7.out).mono ?_); (case side1 => repeat (first | exact (Kd.R_reads' HO733.out).2.2 | (with_reducible refine Kd.C_alloc ?_ _) | (with_reducible refine Kd.C_drewN ?_ _) | (with_reducible refine Kd.C_drew ?_))); (case side2 => exact (Kd.R_reads' HO733.out).2.1); rintro e w' ⟨rfl, ⟨nd, rfl⟩⟩) | (go_at_call 68; (with_reducible refine (spec_apScale.calls k2 _ _ y731 t735 _ ?side1 ?side2 A9.out).mono ?_); (case side1 => repeat (first | exact (Kd.R_reads' HO733.out).2.2 | (with_reducible refine Kd.C_alloc ?_ _) | (with_reducible refine Kd.C_drewN ?_ _) | (with_reducible refine Kd.C_drew ?_))); (case side2 => exact (Kd.R_reads' HO733.out).2.1); rintro e w' ⟨rfl, ⟨nd, rfl⟩⟩) | ((with_reducible refine gate_builtin (b := .append) (xs := #[.tmp 70, .tmp 72]) rfl ?_); at_builtin; refine Kd.S_append (Kd.slice 3 (Kd.int .i64)) (w0 := w) w.heap.size rfl (.tmp 70) (.tmp 72) 26 22 (.slice none 0 0) 24 rfl Try.underlying26 info22 rfl (by decide) (by omega) u3 x3_2 y731 [.slice Ao14 y731.length co14] (fun _ => True) (fun k_ => some k_ = (.slice Ao14 y731.length co14 : Value).ownBlock) rfl rfl ?aP (fun k_ hk_ => ((Kd.R_mono (ok' := fun k_ => ((fun _ => True)) k_ ∧ some k_ ≠ (u3 : Value).ownBlock) (Kd.R_apart' (HO733.out) (Kd.S_typed HO_3.out) (by decide)) (fun k_ hk => ⟨trivial, hk.2⟩))).1 k_ hk_.symm) ?aF ?aO ?aB ?aS ?aL ?_; (case aP => exact Kd.M_row (Kd.R_mono (Kd.R_tight rfl (Kd.R_mono (ok' := fun k_ => ((fun _ => True)) k_ ∧ some k_ ≠ (u3 : Value).ownBlock) (Kd.R_apart' (HO733.out) (Kd.S_typed HO_3.out) (by decide)) (fun k_ hk => ⟨trivial, hk.2⟩))) (fun _ h_ => h_))); (case aB => exact (by repeat (first | (with_reducible first | exact HB.out | apply below_alloc | apply pw_below_drewN | apply below_drew1) | exact HB.out))); (case aF => exact (fun _ _ => trivial)); (case aO => exact (by (with_reducible repeat (first | apply Kd.S_alloc | apply Kd.S_drewN | apply Kd.S_drew)); exact Kd.S_mono HO_3.out (fun k_ hk => ⟨trivial, fun e_ => hk.2 e_⟩))); (case aS => exact (below_size (by repeat (first | (with_reducible first | exact HB.out | apply below_alloc | apply pw_below_drewN | apply below_drew1) | exact HB.out)))); (case aL => have := LMc11.out; omega); intro v737 w15 ho hb hg hat; rw [← Ny736.out] at ho; have n0_ := Aside0.mk (hb); have n1_ := Aside0.mk (ho); clear HB; clear HO_3; clear HO733; have HB := n0_; have HO738 := n1_; clear n0_ n1_; clear ho hb hg hat))
                        go_roundg k2
                        case measure => have := HK1.out; have := HK2.out; omega
                        case rel => exact ⟨(y736), (wrap64 (x5_2 + 1)), (by first | rfl | (simp; done) | (simp [*]; done)), H', ⟨by have := HK1.out; have := HK2.out; omega⟩, ⟨by (with_reducible repeat (first | apply Kd.S_alloc | apply Kd.S_drewN | apply Kd.S_drew)); exact HO738.out⟩, ⟨by repeat (first | (with_reducible first | exact HB.out | apply below_alloc | apply pw_below_drewN | apply below_drew1) | exact HB.out)⟩⟩
                      · rw [if_neg c11] at H
                        exact absurd H (by simp)
                    · rw [if_neg c10] at H
                      have c10b0 : (t735 == 1) = false := beq_eq_false_iff_ne.mpr c10
                      have c10b1 : (t735 != 1) = true := bne_iff_ne.mpr c10
                      have H' := Aside0.mk H
                      clear H
                      go_wp2_with (first | ((with_reducible refine gate_callee (f := 112) rfl ?_); refine goesL_ (some 42) rfl rfl Try.func112 (by kernel_rfl) rfl #[.int .i64 (wrap64 ((wrap64 (x4_1 * x5_2)) - (wrap64 (a0 * (wrap64 (x4_1 + x5_2))))))] rfl (by (try simp only [List.map_toArray, List.map_cons, List.map_nil]); first | done | rfl | (simp only [List.length_drop, List.length_take]; rfl)) ?_; (with_reducible refine (spec_foRoot.calls k2 (wrap64 ((wrap64 (x4_1 * x5_2)) - (wrap64 (a0 * (wrap64 (x4_1 + x5_2)))))) t730 _ A5.out).mono ?_); rintro e w' ⟨rfl, ⟨nd, rfl⟩⟩; refine ⟨_, rfl, ?_⟩) | ((with_reducible refine gate_dst (N := 55) rfl ?_); refine Kd.R_lit (Kd.int .i64) _ 3 ?hg (N := 55) ?hd (xs := ([wrap64 (-a0), x4_1, x5_2, wrap64 ((wrap64 ((wrap64 (x4_1 + x5_2)) - a0)) - (wrap64 (2 * t730)))] : List Int)) (inner := [.int .i64 (wrap64 (-a0)), .int .i64 x4_1, .int .i64 x5_2, .int .i64 (wrap64 ((wrap64 ((wrap64 (x4_1 + x5_2)) - a0)) - (wrap64 (2 * t730))))]) (ok := fun _ => True) (okp := fun _ => True) ?hr ?hp (fun _ hk => hk) trivial (Below.refl _ _) (Nat.le_refl _) (by simp) ?_; (case hd => rfl); (case hg => rfl); (case hr => first | (go_simp; done) | (go_simp; rfl)); (case hp => exact (Reps.one (show Kd.M (Kd.int .i64) _ _ _ (wrap64 (-a0)) [.int .i64 (wrap64 (-a0))] from rfl) (Reps.one (show Kd.M (Kd.int .i64) _ _ _ x4_1 [.int .i64 x4_1] from rfl) (Reps.one (show Kd.M (Kd.int .i64) _ _ _ x5_2 [.int .i64 x5_2] from rfl) (Reps.one (show Kd.M (Kd.int .i64) _ _ _ (wrap64 ((wrap64 ((wrap64 (x4_1 + x5_2)) - a0)) - (wrap64 (2 * t730)))) [.int .i64 (wrap64 ((wrap64 ((wrap64 (x4_1 + x5_2)) - a0)) - (wrap64 (2 * t730))))] from rfl) (Reps.none _ _)))))); intro v732 w16 ho17 hb hg_ hnew_; clear hg_ hnew_; (first | rw [← Ny731.out] at ho17 | (simp only [Int.reduceToNat] at ho17; rw [← Ny731.out] at ho17)); have n0_ := Aside0.mk (Kd.S_elder' (by (with_reducible repeat (first | apply Kd.S_alloc | apply Kd.S_drewN | apply Kd.S_drew)); exact HO_3.out) (Kd.R_base ho17) hb); have n1_ := Aside0.mk (Kd.R_lower ho17 (below_size (by repeat (first | (with_reducible first | exact HB.out | apply below_alloc | apply pw_below_drewN | apply below_drew1) | exact HB.out)))); have n2_ := Aside0.mk (below_step (by repeat (first | (with_reducible first | exact HB.out | apply below_alloc | apply pw_below_drewN | apply below_drew1) | exact HB.out)) hb); clear HO_3; clear HB; have HO_3 := n0_; have HO733 := n1_; have HB := n2_; clear n0_ n1_ n2_; clear hb ho17; obtain ⟨Ao18, co18, eo18⟩ := Kd.R_slice HO733.out; subst eo18) | (go_at_call 61; (with_reducible refine (spec_apGood.calls k2 _ _ y731 true _ ?side1 ?side2 A7.out).mono ?_); (case side1 => repeat (first | exact (Kd.R_reads' HO733.out).2.2 | (with_reducible refine Kd.C_alloc ?_ _) | (with_reducible refine Kd.C_drewN ?_ _) | (with_reducible refine Kd.C_drew ?_))); (case side2 => exact (Kd.R_reads' HO733.out).2.1); rintro e w' ⟨rfl, ⟨nd, rfl⟩⟩) | (go_at_call 68; (with_reducible refine (spec_apScale.calls k2 _ _ y731 t735 _ ?side1 ?side2 A9.out).mono ?_); (case side1 => repeat (first | exact (Kd.R_reads' HO733.out).2.2 | (with_reducible refine Kd.C_alloc ?_ _) | (with_reducible refine Kd.C_drewN ?_ _) | (with_reducible refine Kd.C_drew ?_))); (case side2 => exact (Kd.R_reads' HO733.out).2.1); rintro e w' ⟨rfl, ⟨nd, rfl⟩⟩))
                      go_roundg k2
                      case measure => have := HK1.out; have := HK2.out; omega
                      case rel => exact ⟨(x3_2), (wrap64 (x5_2 + 1)), (by first | rfl | (simp; done) | (simp [*]; done)), H', ⟨by have := HK1.out; have := HK2.out; omega⟩, ⟨by (with_reducible repeat (first | apply Kd.S_alloc | apply Kd.S_drewN | apply Kd.S_drew)); exact Kd.S_mono HO_3.out (fun _ hk => trivial)⟩, ⟨by repeat (first | (with_reducible first | exact HB.out | apply below_alloc | apply pw_below_drewN | apply below_drew1) | exact HB.out)⟩⟩
                  · replace c8 := Bool.eq_false_iff.mpr c8
                    subst c8
                    have H1 : (spec_apRoots.l1 k2 a0 x3_2 x4_1 (wrap64 (x5_2 + 1))) = some r := by rw [if_neg (show ¬ (false = true) by decide)] at H; exact H
                    clear H
                    have H := H1
                    clear H1
                    have H' := Aside0.mk H
                    clear H
                    go_wp2_with (first | ((with_reducible refine gate_callee (f := 112) rfl ?_); refine goesL_ (some 42) rfl rfl Try.func112 (by kernel_rfl) rfl #[.int .i64 (wrap64 ((wrap64 (x4_1 * x5_2)) - (wrap64 (a0 * (wrap64 (x4_1 + x5_2))))))] rfl (by (try simp only [List.map_toArray, List.map_cons, List.map_nil]); first | done | rfl | (simp only [List.length_drop, List.length_take]; rfl)) ?_; (with_reducible refine (spec_foRoot.calls k2 (wrap64 ((wrap64 (x4_1 * x5_2)) - (wrap64 (a0 * (wrap64 (x4_1 + x5_2)))))) t730 _ A5.out).mono ?_); rintro e w' ⟨rfl, ⟨nd, rfl⟩⟩; refine ⟨_, rfl, ?_⟩) | ((with_reducible refine gate_dst (N := 55) rfl ?_); refine Kd.R_lit (Kd.int .i64) _ 3 ?hg (N := 55) ?hd (xs := ([wrap64 (-a0), x4_1, x5_2, wrap64 ((wrap64 ((wrap64 (x4_1 + x5_2)) - a0)) - (wrap64 (2 * t730)))] : List Int)) (inner := [.int .i64 (wrap64 (-a0)), .int .i64 x4_1, .int .i64 x5_2, .int .i64 (wrap64 ((wrap64 ((wrap64 (x4_1 + x5_2)) - a0)) - (wrap64 (2 * t730))))]) (ok := fun _ => True) (okp := fun _ => True) ?hr ?hp (fun _ hk => hk) trivial (Below.refl _ _) (Nat.le_refl _) (by simp) ?_; (case hd => rfl); (case hg => rfl); (case hr => first | (go_simp; done) | (go_simp; rfl)); (case hp => exact (Reps.one (show Kd.M (Kd.int .i64) _ _ _ (wrap64 (-a0)) [.int .i64 (wrap64 (-a0))] from rfl) (Reps.one (show Kd.M (Kd.int .i64) _ _ _ x4_1 [.int .i64 x4_1] from rfl) (Reps.one (show Kd.M (Kd.int .i64) _ _ _ x5_2 [.int .i64 x5_2] from rfl) (Reps.one (show Kd.M (Kd.int .i64) _ _ _ (wrap64 ((wrap64 ((wrap64 (x4_1 + x5_2)) - a0)) - (wrap64 (2 * t730)))) [.int .i64 (wrap64 ((wrap64 ((wrap64 (x4_1 + x5_2)) - a0)) - (wrap64 (2 * t730))))] from rfl) (Reps.none _ _)))))); intro v732 w19 ho20 hb hg_ hnew_; clear hg_ hnew_; (first | rw [← Ny731.out] at ho20 | (simp only [Int.reduceToNat] at ho20; rw [← Ny731.out] at ho20)); have n0_ := Aside0.mk (Kd.S_elder' (by (with_reducible repeat (first | apply Kd.S_alloc | apply Kd.S_drewN | apply Kd.S_drew)); exact HO_3.out) (Kd.R_base ho20) hb); have n1_ := Aside0.mk (Kd.R_lower ho20 (below_size (by repeat (first | (with_reducible first | exact HB.out | apply below_alloc | apply pw_below_drewN | apply below_drew1) | exact HB.out)))); have n2_ := Aside0.mk (below_step (by repeat (first | (with_reducible first | exact HB.out | apply below_alloc | apply pw_below_drewN | apply below_drew1) | exact HB.out)) hb); clear HO_3; clear HB; have HO_3 := n0_; have HO733 := n1_; have HB := n2_; clear n0_ n1_ n2_; clear hb ho20; obtain ⟨Ao21, co21, eo21⟩ := Kd.R_slice HO733.out; subst eo21) | (go_at_call 61; (with_reducible refine (spec_apGood.calls k2 _ _ y731 false _ ?side1 ?side2 A7.out).mono ?_); (case side1 => repeat (first | exact (Kd.R_reads' HO733.out).2.2 | (with_reducible refine Kd.C_alloc ?_ _) | (with_reducible refine Kd.C_drewN ?_ _) | (with_reducible refine Kd.C_drew ?_))); (case side2 => exact (Kd.R_reads' HO733.out).2.1); rintro e w' ⟨rfl, ⟨nd, rfl⟩⟩))
                    go_roundg k2
                    case measure => have := HK1.out; have := HK2.out; omega
                    case rel => exact ⟨(x3_2), (wrap64 (x5_2 + 1)), (by first | rfl | (simp; done) | (simp [*]; done)), H', ⟨by have := HK1.out; have := HK2.out; omega⟩, ⟨by (with_reducible repeat (first | apply Kd.S_alloc | apply Kd.S_drewN | apply Kd.S_drew)); exact Kd.S_mono HO_3.out (fun _ hk => trivial)⟩, ⟨by repeat (first | (with_reducible first | exact HB.out | apply below_alloc | apply pw_below_drewN | apply below_drew1) | exact HB.out)⟩⟩
                · rw [if_neg c6] at H
                  have c6b0 : ((wrap64 (t730 * t730)) == (wrap64 ((wrap64 (x4_1 * x5_2)) - (wrap64 (a0 * (wrap64 (x4_1 + x5_2))))))) = false := beq_eq_false_iff_ne.mpr c6
                  have c6b1 : ((wrap64 (t730 * t730)) != (wrap64 ((wrap64 (x4_1 * x5_2)) - (wrap64 (a0 * (wrap64 (x4_1 + x5_2))))))) = true := bne_iff_ne.mpr c6
                  have H' := Aside0.mk H
                  clear H
                  go_wp2_with (first | ((with_reducible refine gate_callee (f := 112) rfl ?_); refine goesL_ (some 42) rfl rfl Try.func112 (by kernel_rfl) rfl #[.int .i64 (wrap64 ((wrap64 (x4_1 * x5_2)) - (wrap64 (a0 * (wrap64 (x4_1 + x5_2))))))] rfl (by (try simp only [List.map_toArray, List.map_cons, List.map_nil]); first | done | rfl | (simp only [List.length_drop, List.length_take]; rfl)) ?_; (with_reducible refine (spec_foRoot.calls k2 (wrap64 ((wrap64 (x4_1 * x5_2)) - (wrap64 (a0 * (wrap64 (x4_1 + x5_2)))))) t730 _ A5.out).mono ?_); rintro e w' ⟨rfl, ⟨nd, rfl⟩⟩; refine ⟨_, rfl, ?_⟩) | ((with_reducible refine gate_dst (N := 55) rfl ?_); refine Kd.R_lit (Kd.int .i64) _ 3 ?hg (N := 55) ?hd (xs := ([wrap64 (-a0), x4_1, x5_2, wrap64 ((wrap64 ((wrap64 (x4_1 + x5_2)) - a0)) - (wrap64 (2 * t730)))] : List Int)) (inner := [.int .i64 (wrap64 (-a0)), .int .i64 x4_1, .int .i64 x5_2, .int .i64 (wrap64 ((wrap64 ((wrap64 (x4_1 + x5_2)) - a0)) - (wrap64 (2 * t730))))]) (ok := fun _ => True) (okp := fun _ => True) ?hr ?hp (fun _ hk => hk) trivial (Below.refl _ _) (Nat.le_refl _) (by simp) ?_; (case hd => rfl); (case hg => rfl); (case hr => first | (go_simp; done) | (go_simp; rfl)); (case hp => exact (Reps.one (show Kd.M (Kd.int .i64) _ _ _ (wrap64 (-a0)) [.int .i64 (wrap64 (-a0))] from rfl) (Reps.one (show Kd.M (Kd.int .i64) _ _ _ x4_1 [.int .i64 x4_1] from rfl) (Reps.one (show Kd.M (Kd.int .i64) _ _ _ x5_2 [.int .i64 x5_2] from rfl) (Reps.one (show Kd.M (Kd.int .i64) _ _ _ (wrap64 ((wrap64 ((wrap64 (x4_1 + x5_2)) - a0)) - (wrap64 (2 * t730)))) [.int .i64 (wrap64 ((wrap64 ((wrap64 (x4_1 + x5_2)) - a0)) - (wrap64 (2 * t730))))] from rfl) (Reps.none _ _)))))); intro v732 w22 ho23 hb hg_ hnew_; clear hg_ hnew_; (first | rw [← Ny731.out] at ho23 | (simp only [Int.reduceToNat] at ho23; rw [← Ny731.out] at ho23)); have n0_ := Aside0.mk (Kd.S_elder' (by (with_reducible repeat (first | apply Kd.S_alloc | apply Kd.S_drewN | apply Kd.S_drew)); exact HO_3.out) (Kd.R_base ho23) hb); have n1_ := Aside0.mk (Kd.R_lower ho23 (below_size (by repeat (first | (with_reducible first | exact HB.out | apply below_alloc | apply pw_below_drewN | apply below_drew1) | exact HB.out)))); have n2_ := Aside0.mk (below_step (by repeat (first | (with_reducible first | exact HB.out | apply below_alloc | apply pw_below_drewN | apply below_drew1) | exact HB.out)) hb); clear HO_3; clear HB; have HO_3 := n0_; have HO733 := n1_; have HB := n2_; clear n0_ n1_ n2_; clear hb ho23))
                  go_roundg k2
                  case measure => have := HK1.out; have := HK2.out; omega
                  case rel => exact ⟨(x3_2), (wrap64 (x5_2 + 1)), (by first | rfl | (simp; done) | (simp [*]; done)), H', ⟨by have := HK1.out; have := HK2.out; omega⟩, ⟨by (with_reducible repeat (first | apply Kd.S_alloc | apply Kd.S_drewN | apply Kd.S_drew)); exact Kd.S_mono HO_3.out (fun _ hk => trivial)⟩, ⟨by repeat (first | (with_reducible first | exact HB.out | apply below_alloc | apply pw_below_drewN | apply below_drew1) | exact HB.out)⟩⟩
      · rw [if_neg c2] at H
        have c2b0 : decide (x4_1 < (wrap64 (3 * a0))) = false := decide_eq_false c2
        clear c2
        obtain rfl := Option.some.inj H
        go_wp2
        go_ret
        exact ⟨_, by first | rfl | (simp [errW_none, errW_some] <;> rfl) | (simp [*, errW_none, errW_some] <;> rfl), by (with_reducible repeat (first | apply Kd.S_alloc | apply Kd.S_drewN | apply Kd.S_drew)); exact HO_3.out, by repeat (first | (with_reducible first | exact HB.out | apply below_alloc | apply pw_below_drewN | apply below_drew1) | exact HB.out)⟩

/-! ### spec_RootsWith: function 57 -/
def spec_RootsWith.f (k : Nat) (a0 : Int) : Option ((List (List Int)) × Bool) := (spec_l1In.f a0 1 30).bind fun t739 => (if t739 = true then ((spec_apRoots.f k a0).bind fun t740 => (some (t740, true))) else (some (([] : List (List Int)), false)))
theorem spec_RootsWith.mono : ∀ a0 k, LeO (spec_RootsWith.f k a0) (spec_RootsWith.f (k + 1) a0) := by
  intro a0 k
  unfold spec_RootsWith.f
  repeat' first
      | (with_reducible exact spec_apRoots.mono _ _)
      | (with_reducible exact LeO.refl _)
      | (with_reducible exact LeO.none _)
      | (with_reducible refine LeO.ite ?_ ?_)
      | (with_reducible refine LeO.bind ?_ (fun _ => ?_))
      | exact spec_apRoots.mono _ _
      | exact LeO.none _
      | refine LeO.ite ?_ ?_
      | refine LeO.bind ?_ (fun _ => ?_)
set_option maxHeartbeats 8000000 in
set_option maxRecDepth 100000 in
theorem spec_RootsWith.calls (k : Nat) (a0 : Int) (r1 : List (List Int)) (r2 : Bool) (w : World) (h : spec_RootsWith.f k a0 = some (r1, r2)) :
    Calls Try.prog 57 #[.int .i64 a0] w fun e w' => ∃ v0_ : Value, e = .returned (.tuple #[v0_, .bool r2]) ∧ Kd.S (Kd.slice 3 (Kd.int .i64)) 22 w' w.heap.size (fun _ => True) v0_ r1 ∧ Below w.heap.size w w' := by
  have HB := Aside0.mk (Below.refl w.heap.size w)
  have H : ((spec_l1In.f a0 1 30).bind fun t739 => (if t739 = true then ((spec_apRoots.f k a0).bind fun t740 => (some (t740, true))) else (some (([] : List (List Int)), false)))) = some (r1, r2) := h
  clear h
  replace H := Option.bind_eq_some_iff.mp H
  obtain ⟨t739, A20, H⟩ := H
  replace H : (if t739 = true then ((spec_apRoots.f k a0).bind fun t740 => (some (t740, true))) else (some (([] : List (List Int)), false))) = some (r1, r2) := H
  have A2 := Aside0.mk A20
  clear A20
  by_cases c3 : t739 = true
  · subst c3
    have H1 : ((spec_apRoots.f k a0).bind fun t740 => (some (t740, true))) = some (r1, r2) := by rw [if_pos rfl] at H; exact H
    clear H
    have H := H1
    clear H1
    replace H := Option.bind_eq_some_iff.mp H
    obtain ⟨t740, A40, H⟩ := H
    replace H : (some (t740, true)) = some (r1, r2) := H
    have A4 := Aside0.mk A40
    clear A40
    simp only [Option.some.injEq, Prod.mk.injEq] at H
    obtain ⟨rfl, rfl⟩ := H
    go_enter Try.func57, Try.ntmps57
    go_wp2_with (first | ((with_reducible refine gate_callee (f := 70) rfl ?_); refine goesL_ (some 5) rfl rfl Try.func70 (by kernel_rfl) rfl #[.int .i64 a0, .int .i64 1, .int .i64 30] rfl (by (try simp only [List.map_toArray, List.map_cons, List.map_nil]); first | done | rfl | (simp only [List.length_drop, List.length_take]; rfl)) ?_; (with_reducible refine (spec_l1In.calls a0 1 30 true _ A2.out).mono ?_); rintro e w' ⟨rfl, ⟨nd, rfl⟩⟩; refine ⟨_, rfl, ?_⟩) | ((with_reducible refine gate_callee (f := 94) rfl ?_); refine goesL_ (some 8) rfl rfl Try.func94 (by kernel_rfl) rfl #[.int .i64 a0] rfl (by (try simp only [List.map_toArray, List.map_cons, List.map_nil]); first | done | rfl | (simp only [List.length_drop, List.length_take]; rfl)) ?_; (with_reducible refine (spec_apRoots.calls k a0 t740 _ A4.out).mono ?_); rintro e w5 ⟨v741, rfl, ho0, hb⟩; refine ⟨_, rfl, ?_⟩; have n0_ := Aside0.mk (Kd.S_lower ho0 (below_size (by repeat (first | (with_reducible first | exact HB.out | apply below_alloc | apply pw_below_drewN | apply below_drew1) | exact HB.out)))); have n1_ := Aside0.mk (below_step (by repeat (first | (with_reducible first | exact HB.out | apply below_alloc | apply pw_below_drewN | apply below_drew1) | exact HB.out)) hb); clear HB; have HO742 := n0_; have HB := n1_; clear n0_ n1_; (try clear hb); (try clear hb2); (try clear hk); (try clear hi); (try clear ho0)))
    go_ret2
    exact ⟨_, by first | rfl | (simp [errW_none, errW_some] <;> rfl) | (simp [*, errW_none, errW_some] <;> rfl), by (with_reducible repeat (first | apply Kd.S_alloc | apply Kd.S_drewN | apply Kd.S_drew)); exact HO742.out, by repeat (first | (with_reducible first | exact HB.out | apply below_alloc | apply pw_below_drewN | apply below_drew1) | exact HB.out)⟩
  · replace c3 := Bool.eq_false_iff.mpr c3
    subst c3
    have H1 : (some (([] : List (List Int)), false)) = some (r1, r2) := by rw [if_neg (show ¬ (false = true) by decide)] at H; exact H
    clear H
    have H := H1
    clear H1
    simp only [Option.some.injEq, Prod.mk.injEq] at H
    obtain ⟨rfl, rfl⟩ := H
    go_enter Try.func57, Try.ntmps57
    go_wp2_with (first | ((with_reducible refine gate_callee (f := 70) rfl ?_); refine goesL_ (some 5) rfl rfl Try.func70 (by kernel_rfl) rfl #[.int .i64 a0, .int .i64 1, .int .i64 30] rfl (by (try simp only [List.map_toArray, List.map_cons, List.map_nil]); first | done | rfl | (simp only [List.length_drop, List.length_take]; rfl)) ?_; (with_reducible refine (spec_l1In.calls a0 1 30 false _ A2.out).mono ?_); rintro e w' ⟨rfl, ⟨nd, rfl⟩⟩; refine ⟨_, rfl, ?_⟩))
    go_ret2
    exact ⟨_, by first | rfl | (simp [errW_none, errW_some] <;> rfl) | (simp [*, errW_none, errW_some] <;> rfl), by first | exact Kd.S_nil _ _ _ _ _ | exact Kd.N_nil _ _ _ _ _ | exact Kd.V_nil _ _ _ _ _ | exact Kd.Q_nil _ _ _ _ _ | exact Kd.R_nil _ _ _ _ _, by repeat (first | (with_reducible first | exact HB.out | apply below_alloc | apply pw_below_drewN | apply below_drew1) | exact HB.out)⟩

/-! ### slices_Clone_int_int_96: function 96 -/
def slices_Clone_int_int_96.f (l0 : List (List Int)) : Option (List (List Int)) := if l0.length < 5864062014805 then some l0 else none
set_option maxHeartbeats 8000000 in
set_option maxRecDepth 100000 in
theorem slices_Clone_int_int_96.calls (P0_ : Nat → Prop) (u9000_ : Value) (l0 r : List (List Int)) (w0 w : World) (hB : Below w0.heap.size w0 w) (ho0 : Kd.S (Kd.slice 3 (Kd.int .i64)) 22 w w0.heap.size P0_ u9000_ l0) (h : slices_Clone_int_int_96.f l0 = some r) :
    Calls Try.prog 96 #[u9000_] w fun e w' => ∃ v0_ : Value, e = .returned (v0_) ∧ Kd.S (Kd.slice 3 (Kd.int .i64)) 22 w' w0.heap.size (fun k_ => (P0_ k_ ∨ w.heap.size ≤ k_)) v0_ r ∧ Below w0.heap.size w0 w' ∧ Kept w w' (fun k_ => P0_ k_) := by
  have hl : l0.length < 5864062014805 ∧ l0 = r := by
    unfold slices_Clone_int_int_96.f at h
    split at h
    · rename_i h1; exact ⟨h1, Option.some.inj h⟩
    · cases h
  obtain ⟨hl, rfl⟩ := hl
  have LM := Aside0.mk hl
  have HS := Aside0.mk ho0
  have HB := Aside0.mk hB
  have HW := Aside0.mk hB.size
  clear h hl ho0 hB
  have hE : ∀ (W : World) (A : Option Addr) (n c : Nat), (binOp .eql 26 (.slice A n c) (.slice none 0 0)).run Try.prog W = .ok (.bool A.isNone) W := fun W A n c => Lib.run_eql_slice_nil W 26 22 A n c 0 0 Try.underlying26
  obtain ⟨inner, ho⟩ := Kd.S_own HS.out
  rcases ho.2 with ⟨rfl, h0⟩ | ⟨g, cap, cur, rfl, hg, _⟩
  · obtain rfl : l0 = [] := List.eq_nil_of_length_eq_zero h0
    clear ho h0
    go_enter Try.func96, Try.ntmps96
    go_wp2
    go_ret
    exact ⟨_, rfl, Kd.S_nil _ _ _ _ _, HB.out, Kept.refl _ _⟩
  · clear ho hg
    go_enter Try.func96, Try.ntmps96
    go_wp2_with (first | ((with_reducible refine gate_dst (N := 5) rfl ?_); refine Kd.S_lit (Kd.slice 3 (Kd.int .i64)) _ 22 ?hg (N := 5) ?hd (xs := ([] : List (List Int))) (inner := []) (ok := fun _ => True) (okp := fun _ => True) ?hr ?hp (fun _ hk => hk) trivial (Below.refl _ _) (Nat.le_refl _) (by simp) ?_; (case hd => rfl); (case hg => rfl); (case hr => first | (go_simp; done) | (go_simp; rfl)); (case hp => exact (Reps.none _ _)); intro v5 w4 ho hb hg_ hnew_; clear hg_ hnew_; have HO := Aside0.mk ho; have HB4 := Aside0.mk hb; clear hb ho) | ((with_reducible refine gate_builtin (b := .append) (xs := #[.tmp 5, .tmp 6]) rfl ?_); at_builtin; refine S_append_rows (Kd.slice 3 (Kd.int .i64)) (w0 := w0) w0.heap.size rfl (.tmp 5) (.tmp 6) 26 22 (.slice none 0 0) 24 rfl Try.underlying26 info22 rfl (by decide) (by omega) v5 [] l0 (some ⟨g, 0, none⟩) cap (fun k_ => (P0_ k_ ∨ w.heap.size ≤ k_)) (fun k_ => P0_ k_ ∧ k_ < w.heap.size) rfl rfl ?aO ?aY ?aQ ?aF ?aB ?aS ?aL ?_; (case aO => exact Kd.S_lower (Kd.S_mono (Kd.S_bound HO.out) (fun k_ hk => ⟨.inr hk.2.1, fun h_ => absurd h_.2 (Nat.not_lt.2 hk.2.1)⟩)) HW.out); (case aY => exact Kd.S_mono (Kd.S_below (Kd.S_bound HS.out) HB4.out) (fun k_ hk => ⟨hk.1, hk.2.2.1⟩)); (case aQ => exact (fun k_ hk => ⟨.inl hk.1, fun e_ => absurd hk.2 (Nat.not_lt.2 (Kd.S_base HO.out k_ e_.symm))⟩)); (case aF => exact (fun k_ hk => .inr (Nat.le_trans HB4.out.size hk))); (case aB => exact below_then HB.out HW.out HB4.out); (case aS => exact Nat.le_trans HW.out HB4.out.size); (case aL => have := LM.out; simp; omega); intro v7 w6 ho hb hg hat; have HR := Aside0.mk ho; have HB6 := Aside0.mk hb; have HK6 := Aside0.mk (Kept.of_grown hg (Kept.of_below HB4.out (fun k_ => P0_ k_)) (fun k_ e_ => .inr (Kd.S_base HO.out k_ e_))); clear ho hb hg hat))
    go_ret
    exact ⟨_, rfl, HR.out, HB6.out, HK6.out⟩

/-! ### cmp_isNaN_int: function 144 -/
def cmp_isNaN_int.f (a0 : Int) : Option (Bool) := some (a0 != a0)
set_option maxHeartbeats 8000000 in
set_option maxRecDepth 100000 in
theorem cmp_isNaN_int.calls (a0 : Int) (r : Bool) (w : World) (h : cmp_isNaN_int.f a0 = some r) :
    Calls Try.prog 144 #[.int .i64 a0] w fun e w' => e = .returned (.bool r) ∧ Drawn0 w w' := by
  have H : (some (a0 != a0)) = some r := h
  clear h
  obtain rfl := Option.some.inj H
  go_enter Try.func144, Try.ntmps144
  go_wp2
  go_ret
  exact ⟨by first | rfl | (simp; done) | (simp [*]; done), by repeat (first | exact Drawn0.refl _ | apply Drawn0.step)⟩

/-! ### cmp_Compare_int: function 123 -/
def cmp_Compare_int.f (a0 : Int) (a1 : Int) : Option (Int) := (cmp_isNaN_int.f a0).bind fun t743 => ((cmp_isNaN_int.f a1).bind fun t744 => (if t743 = true then (if t744 = true then (some 0) else (some (-1))) else (if t744 = true then (some 1) else (if a0 < a1 then (some (-1)) else (if a0 > a1 then (some 1) else (some 0))))))
set_option maxHeartbeats 8000000 in
set_option maxRecDepth 100000 in
theorem cmp_Compare_int.calls (a0 : Int) (a1 : Int) (r : Int) (w : World) (h : cmp_Compare_int.f a0 a1 = some r) :
    Calls Try.prog 123 #[.int .i64 a0, .int .i64 a1] w fun e w' => e = .returned (.int .i64 r) ∧ Drawn0 w w' := by
  have H : ((cmp_isNaN_int.f a0).bind fun t743 => ((cmp_isNaN_int.f a1).bind fun t744 => (if t743 = true then (if t744 = true then (some 0) else (some (-1))) else (if t744 = true then (some 1) else (if a0 < a1 then (some (-1)) else (if a0 > a1 then (some 1) else (some 0))))))) = some r := h
  clear h
  replace H := Option.bind_eq_some_iff.mp H
  obtain ⟨t743, A30, H⟩ := H
  replace H : ((cmp_isNaN_int.f a1).bind fun t744 => (if t743 = true then (if t744 = true then (some 0) else (some (-1))) else (if t744 = true then (some 1) else (if a0 < a1 then (some (-1)) else (if a0 > a1 then (some 1) else (some 0)))))) = some r := H
  have A3 := Aside0.mk A30
  clear A30
  replace H := Option.bind_eq_some_iff.mp H
  obtain ⟨t744, A40, H⟩ := H
  replace H : (if t743 = true then (if t744 = true then (some 0) else (some (-1))) else (if t744 = true then (some 1) else (if a0 < a1 then (some (-1)) else (if a0 > a1 then (some 1) else (some 0))))) = some r := H
  have A4 := Aside0.mk A40
  clear A40
  by_cases c5 : t743 = true
  · subst c5
    have H1 : (if t744 = true then (some 0) else (some (-1))) = some r := by rw [if_pos rfl] at H; exact H
    clear H
    have H := H1
    clear H1
    by_cases c6 : t744 = true
    · subst c6
      have H1 : (some 0) = some r := by rw [if_pos rfl] at H; exact H
      clear H
      have H := H1
      clear H1
      obtain rfl := Option.some.inj H
      go_enter Try.func123, Try.ntmps123
      go_wp2_with (first | ((with_reducible refine gate_callee (f := 144) rfl ?_); refine goesL_ (some 8) rfl rfl Try.func144 (by kernel_rfl) rfl #[.int .i64 a0] rfl (by (try simp only [List.map_toArray, List.map_cons, List.map_nil]); first | done | rfl | (simp only [List.length_drop, List.length_take]; rfl)) ?_; (with_reducible refine (cmp_isNaN_int.calls a0 true _ A3.out).mono ?_); rintro e w' ⟨rfl, ⟨nd, rfl⟩⟩; refine ⟨_, rfl, ?_⟩) | ((with_reducible refine gate_callee (f := 144) rfl ?_); refine goesL_ (some 10) rfl rfl Try.func144 (by kernel_rfl) rfl #[.int .i64 a1] rfl (by (try simp only [List.map_toArray, List.map_cons, List.map_nil]); first | done | rfl | (simp only [List.length_drop, List.length_take]; rfl)) ?_; (with_reducible refine (cmp_isNaN_int.calls a1 true _ A4.out).mono ?_); rintro e w' ⟨rfl, ⟨nd, rfl⟩⟩; refine ⟨_, rfl, ?_⟩))
      go_ret
      exact ⟨by first | rfl | (simp; done) | (simp [*]; done), by repeat (first | exact Drawn0.refl _ | apply Drawn0.step)⟩
    · replace c6 := Bool.eq_false_iff.mpr c6
      subst c6
      have H1 : (some (-1)) = some r := by rw [if_neg (show ¬ (false = true) by decide)] at H; exact H
      clear H
      have H := H1
      clear H1
      obtain rfl := Option.some.inj H
      go_enter Try.func123, Try.ntmps123
      go_wp2_with (first | ((with_reducible refine gate_callee (f := 144) rfl ?_); refine goesL_ (some 8) rfl rfl Try.func144 (by kernel_rfl) rfl #[.int .i64 a0] rfl (by (try simp only [List.map_toArray, List.map_cons, List.map_nil]); first | done | rfl | (simp only [List.length_drop, List.length_take]; rfl)) ?_; (with_reducible refine (cmp_isNaN_int.calls a0 true _ A3.out).mono ?_); rintro e w' ⟨rfl, ⟨nd, rfl⟩⟩; refine ⟨_, rfl, ?_⟩) | ((with_reducible refine gate_callee (f := 144) rfl ?_); refine goesL_ (some 10) rfl rfl Try.func144 (by kernel_rfl) rfl #[.int .i64 a1] rfl (by (try simp only [List.map_toArray, List.map_cons, List.map_nil]); first | done | rfl | (simp only [List.length_drop, List.length_take]; rfl)) ?_; (with_reducible refine (cmp_isNaN_int.calls a1 false _ A4.out).mono ?_); rintro e w' ⟨rfl, ⟨nd, rfl⟩⟩; refine ⟨_, rfl, ?_⟩))
      go_ret
      exact ⟨by first | rfl | (simp; done) | (simp [*]; done), by repeat (first | exact Drawn0.refl _ | apply Drawn0.step)⟩
  · replace c5 := Bool.eq_false_iff.mpr c5
    subst c5
    have H1 : (if t744 = true then (some 1) else (if a0 < a1 then (some (-1)) else (if a0 > a1 then (some 1) else (some 0)))) = some r := by rw [if_neg (show ¬ (false = true) by decide)] at H; exact H
    clear H
    have H := H1
    clear H1
    by_cases c7 : t744 = true
    · subst c7
      have H1 : (some 1) = some r := by rw [if_pos rfl] at H; exact H
      clear H
      have H := H1
      clear H1
      obtain rfl := Option.some.inj H
      go_enter Try.func123, Try.ntmps123
      go_wp2_with (first | ((with_reducible refine gate_callee (f := 144) rfl ?_); refine goesL_ (some 8) rfl rfl Try.func144 (by kernel_rfl) rfl #[.int .i64 a0] rfl (by (try simp only [List.map_toArray, List.map_cons, List.map_nil]); first | done | rfl | (simp only [List.length_drop, List.length_take]; rfl)) ?_; (with_reducible refine (cmp_isNaN_int.calls a0 false _ A3.out).mono ?_); rintro e w' ⟨rfl, ⟨nd, rfl⟩⟩; refine ⟨_, rfl, ?_⟩) | ((with_reducible refine gate_callee (f := 144) rfl ?_); refine goesL_ (some 10) rfl rfl Try.func144 (by kernel_rfl) rfl #[.int .i64 a1] rfl (by (try simp only [List.map_toArray, List.map_cons, List.map_nil]); first | done | rfl | (simp only [List.length_drop, List.length_take]; rfl)) ?_; (with_reducible refine (cmp_isNaN_int.calls a1 true _ A4.out).mono ?_); rintro e w' ⟨rfl, ⟨nd, rfl⟩⟩; refine ⟨_, rfl, ?_⟩))
      go_ret
      exact ⟨by first | rfl | (simp; done) | (simp [*]; done), by repeat (first | exact Drawn0.refl _ | apply Drawn0.step)⟩
    · replace c7 := Bool.eq_false_iff.mpr c7
      subst c7
      have H1 : (if a0 < a1 then (some (-1)) else (if a0 > a1 then (some 1) else (some 0))) = some r := by rw [if_neg (show ¬ (false = true) by decide)] at H; exact H
      clear H
      have H := H1
      clear H1
      by_cases c8 : a0 < a1
      · rw [if_pos c8] at H
        have c8b0 : decide (a0 < a1) = true := decide_eq_true c8
        clear c8
        obtain rfl := Option.some.inj H
        go_enter Try.func123, Try.ntmps123
        go_wp2_with (first | ((with_reducible refine gate_callee (f := 144) rfl ?_); refine goesL_ (some 8) rfl rfl Try.func144 (by kernel_rfl) rfl #[.int .i64 a0] rfl (by (try simp only [List.map_toArray, List.map_cons, List.map_nil]); first | done | rfl | (simp only [List.length_drop, List.length_take]; rfl)) ?_; (with_reducible refine (cmp_isNaN_int.calls a0 false _ A3.out).mono ?_); rintro e w' ⟨rfl, ⟨nd, rfl⟩⟩; refine ⟨_, rfl, ?_⟩) | ((with_reducible refine gate_callee (f := 144) rfl ?_); refine goesL_ (some 10) rfl rfl Try.func144 (by kernel_rfl) rfl #[.int .i64 a1] rfl (by (try simp only [List.map_toArray, List.map_cons, List.map_nil]); first | done | rfl | (simp only [List.length_drop, List.length_take]; rfl)) ?_; (with_reducible refine (cmp_isNaN_int.calls a1 false _ A4.out).mono ?_); rintro e w' ⟨rfl, ⟨nd, rfl⟩⟩; refine ⟨_, rfl, ?_⟩))
        go_ret
        exact ⟨by first | rfl | (simp; done) | (simp [*]; done), by repeat (first | exact Drawn0.refl _ | apply Drawn0.step)⟩
      · rw [if_neg c8] at H
        have c8b0 : decide (a0 < a1) = false := decide_eq_false c8
        clear c8
        by_cases c9 : a0 > a1
        · rw [if_pos c9] at H
          have c9b0 : decide (a1 < a0) = true := decide_eq_true c9
          clear c9
          obtain rfl := Option.some.inj H
          go_enter Try.func123, Try.ntmps123
          go_wp2_with (first | ((with_reducible refine gate_callee (f := 144) rfl ?_); refine goesL_ (some 8) rfl rfl Try.func144 (by kernel_rfl) rfl #[.int .i64 a0] rfl (by (try simp only [List.map_toArray, List.map_cons, List.map_nil]); first | done | rfl | (simp only [List.length_drop, List.length_take]; rfl)) ?_; (with_reducible refine (cmp_isNaN_int.calls a0 false _ A3.out).mono ?_); rintro e w' ⟨rfl, ⟨nd, rfl⟩⟩; refine ⟨_, rfl, ?_⟩) | ((with_reducible refine gate_callee (f := 144) rfl ?_); refine goesL_ (some 10) rfl rfl Try.func144 (by kernel_rfl) rfl #[.int .i64 a1] rfl (by (try simp only [List.map_toArray, List.map_cons, List.map_nil]); first | done | rfl | (simp only [List.length_drop, List.length_take]; rfl)) ?_; (with_reducible refine (cmp_isNaN_int.calls a1 false _ A4.out).mono ?_); rintro e w' ⟨rfl, ⟨nd, rfl⟩⟩; refine ⟨_, rfl, ?_⟩))
          go_ret
          exact ⟨by first | rfl | (simp; done) | (simp [*]; done), by repeat (first | exact Drawn0.refl _ | apply Drawn0.step)⟩
        · rw [if_neg c9] at H
          have c9b0 : decide (a1 < a0) = false := decide_eq_false c9
          clear c9
          obtain rfl := Option.some.inj H
          go_enter Try.func123, Try.ntmps123
          go_wp2_with (first | ((with_reducible refine gate_callee (f := 144) rfl ?_); refine goesL_ (some 8) rfl rfl Try.func144 (by kernel_rfl) rfl #[.int .i64 a0] rfl (by (try simp only [List.map_toArray, List.map_cons, List.map_nil]); first | done | rfl | (simp only [List.length_drop, List.length_take]; rfl)) ?_; (with_reducible refine (cmp_isNaN_int.calls a0 false _ A3.out).mono ?_); rintro e w' ⟨rfl, ⟨nd, rfl⟩⟩; refine ⟨_, rfl, ?_⟩) | ((with_reducible refine gate_callee (f := 144) rfl ?_); refine goesL_ (some 10) rfl rfl Try.func144 (by kernel_rfl) rfl #[.int .i64 a1] rfl (by (try simp only [List.map_toArray, List.map_cons, List.map_nil]); first | done | rfl | (simp only [List.length_drop, List.length_take]; rfl)) ?_; (with_reducible refine (cmp_isNaN_int.calls a1 false _ A4.out).mono ?_); rintro e w' ⟨rfl, ⟨nd, rfl⟩⟩; refine ⟨_, rfl, ?_⟩))
          go_ret
          exact ⟨by first | rfl | (simp; done) | (simp [*]; done), by repeat (first | exact Drawn0.refl _ | apply Drawn0.step)⟩

end Go.Proofs.Ytmjodkckffmnaaa.P
