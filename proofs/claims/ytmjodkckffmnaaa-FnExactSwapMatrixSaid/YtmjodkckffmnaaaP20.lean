/- Written by a program of this session: for Go functions that a statement reaches, Lean functions with the same answers and the proofs that the calls come to them; conditions: none but the arguments' kinds. -/
import Derived.Test.YtmjodkckffmnaaaP0
import Derived.Test.YtmjodkckffmnaaaP9
import Derived.Test.YtmjodkckffmnaaaP10
import Derived.Test.YtmjodkckffmnaaaP11
import Derived.Test.YtmjodkckffmnaaaP12
import Derived.Test.YtmjodkckffmnaaaP13
import Derived.Test.YtmjodkckffmnaaaP19
namespace Go.Proofs.Ytmjodkckffmnaaa.P
open Go.RowKit Go.Proofs.YtmjodkckffmnaaaW.PrintWords Go.Proofs.YtmjodkckffmnaaaW.PrintLast Go.Proofs.YtmjodkckffmnaaaW.PrintMore
attribute [local go_sem] max2_int min2_int max_two min_two max_three min_three max_four min_four   -- for this text's walks alone
set_option linter.unusedVariables false
set_option linter.unusedSimpArgs false

/-! ### impl_unit_1: function 102 -/
def impl_unit_1.f (a0 : Int) (a1 : Int) : Option (Int) := if a0 = a1 then (some 1) else (some 0)
set_option maxHeartbeats 8000000 in
set_option maxRecDepth 100000 in
theorem impl_unit_1.calls (a0 : Int) (a1 : Int) (r : Int) (w : World) (h : impl_unit_1.f a0 a1 = some r) :
    Calls Try.prog 102 #[.int .i64 a0, .int .i64 a1] w fun e w' => e = .returned (.int .i64 r) ∧ Drawn0 w w' := by
  have H : (if a0 = a1 then (some 1) else (some 0)) = some r := h
  clear h
  by_cases c3 : a0 = a1
  · rw [if_pos c3] at H
    have c3b0 : (a0 == a1) = true := beq_iff_eq.mpr c3
    have c3b1 : (a0 != a1) = false := bne_eq_false_iff_eq.mpr c3
    clear c3
    obtain rfl := Option.some.inj H
    go_enter Try.func102, Try.ntmps102
    go_wp2
    go_ret
    exact ⟨by first | rfl | (simp; done) | (simp [*]; done), by repeat (first | exact Drawn0.refl _ | apply Drawn0.step)⟩
  · rw [if_neg c3] at H
    have c3b0 : (a0 == a1) = false := beq_eq_false_iff_ne.mpr c3
    have c3b1 : (a0 != a1) = true := bne_iff_ne.mpr c3
    obtain rfl := Option.some.inj H
    go_enter Try.func102, Try.ntmps102
    go_wp2
    go_ret
    exact ⟨by first | rfl | (simp; done) | (simp [*]; done), by repeat (first | exact Drawn0.refl _ | apply Drawn0.step)⟩

/-! ### impl_unit: function 73 -/
def unP (x y : Int) : Int := if x = y then 1 else 0
def impl_unit.f (a0 : Int) : Option (List (List Int)) := if 0 ≤ a0 ∧ a0 ≤ 1000 then some (mdOut unP a0.toNat 0 a0.toNat []) else none
set_option maxHeartbeats 8000000 in
set_option maxRecDepth 100000 in
theorem impl_unit.at_ (x y : Int) (W : World) : Calls Try.prog 102 (#[.int .i64 x, .int .i64 y] ++ #[]) W fun e w' => e = .returned (.int .i64 (unP x y)) ∧ Below W.heap.size W w' := by
  unfold unP
  by_cases h : x = y
  · rw [if_pos h]
    subst h
    go_enter Try.func102, Try.ntmps102
    go_wp2
    go_ret
    exact ⟨rfl, Below.refl _ _⟩
  · rw [if_neg h]
    have hd : decide (x = y) = false := decide_eq_false h
    go_enter Try.func102, Try.ntmps102
    go_wp2
    go_ret
    exact ⟨rfl, Below.refl _ _⟩
set_option maxHeartbeats 8000000 in
set_option maxRecDepth 100000 in
theorem impl_unit.calls (a0 : Int) (r : List (List Int)) (w : World) (h : impl_unit.f a0 = some r) :
    Calls Try.prog 73 #[.int .i64 a0] w fun e w' => ∃ v0_ : Value, e = .returned (.agg #[v0_]) ∧ Kd.S (Kd.slice 3 (Kd.int .i64)) 22 w' w.heap.size (fun _ => True) v0_ r ∧ Below w.heap.size w w' := by
  have hu28 := Try.underlying28
  unfold impl_unit.f at h
  by_cases hb : 0 ≤ a0 ∧ a0 ≤ 1000
  · rw [if_pos hb] at h
    have hr := Option.some.inj h
    obtain ⟨n, rfl⟩ : ∃ n : Nat, a0 = n := ⟨a0.toNat, by omega⟩
    have eg := enters_of Try.func102 (by kernel_rfl) rfl
    have HC := Aside0.mk (fun W => impl_made.calls 102 #[] eg unP n (by omega) r (by simpa using hr) W (fun x y W' _ => impl_unit.at_ x y W'))
    have HB := Aside0.mk (Below.refl w.heap.size w)
    clear h hr hb eg
    go_enter Try.func73, Try.ntmps73
    go_wp2_with (first | ((with_reducible refine gate_dst (N := 2) rfl ?_); refine box_event ?hg (N := 2) ?hd (cs := #[.slice none 0 0]) (t := 28) ?hr ?_; (case hd => rfl); (case hg => rfl); (case hr => first | (go_simp; done) | (go_simp; rfl)); intro gb1 hg w2 hbox hb; have n0_ := Aside0.mk (below_step HB.out hb); have BK1 := Aside0.mk hbox; have GE1 := Aside0.mk (show w.heap.size ≤ gb1 by rw [hg]; exact below_size HB.out); clear HB hb hbox hg; have HB := n0_; clear n0_) | (go_at_call 66; refine (HC.out _).mono ?_; rintro e w3 ⟨v4, rfl, hs, hb⟩; have HS := Aside0.mk (Kd.S_lower hs (below_size HB.out)); have n0_ := Aside0.mk (below_step HB.out hb); have n1_ := Aside0.mk (blk_below BK1.out hb); clear HB BK1 hb hs; have HB := n0_; have BK1 := n1_; clear n0_ n1_; obtain ⟨Au, cu, eu⟩ := Kd.S_slice HS.out; subst eu; have hcz3 : w3.cell? ⟨gb1, 0, none⟩ = some (.slice none 0 0) := (blk_cell BK1.out 0).trans rfl; have hfz3 := blk_frozen BK1.out 0))
    refine bodyPost_ret (results_cell_row rfl _ _ gb1 28 #[.slice Au r.length cu] (0, 0) _ rfl (by refine blk_put (cs := #[.slice none 0 0]) ?_ 0 _ rfl; exact BK1.out) Try.underlying28 rfl (by kernel_rfl)) rfl ?_
    exact ⟨_, rfl, Kd.S_mono (Kd.S_far (p := ⟨gb1, 0, none⟩) (Kd.S_types HS.out BK1.out (by decide)) (fun _ hk => hk.2) _) (fun _ _ => trivial), below_set HB.out GE1.out⟩
  · rw [if_neg hb] at h
    cases h

/-! ### impl_SwapMatrix: function 31 -/
def impl_SwapMatrix.f (a0 : Int) : Option ((List (List Int)) × Bool) := (impl_isIndex.f a0).bind fun t224 => (if t224 = true then ((impl_unit.f 4).bind fun t225 => (if 0 ≤ a0 then (if a0 < (t225.length : Int) then ((some (t225.set (a0 : Int).toNat (([2, 2, 2, 2] : List Int)) : List (List Int))).bind fun y232 => (if a0 < ((rd_L1 y232 a0).length : Int) then (some ((y232.set (a0 : Int).toNat ((rd_L1 y232 a0).set (a0 : Int).toNat (-1))), true)) else (none))) else (none)) else (none))) else (some (([] : List (List Int)), false)))
set_option maxHeartbeats 8000000 in
set_option maxRecDepth 100000 in
theorem impl_SwapMatrix.calls (a0 : Int) (r1 : List (List Int)) (r2 : Bool) (w : World) (h : impl_SwapMatrix.f a0 = some (r1, r2)) :
    Calls Try.prog 31 #[.int .i64 a0] w fun e w' => ∃ v0_ : Value, e = .returned (.tuple #[.agg #[v0_], .bool r2]) ∧ Kd.S (Kd.slice 3 (Kd.int .i64)) 22 w' w.heap.size (fun _ => True) v0_ r1 ∧ Below w.heap.size w w' := by
  have hu28 := Try.underlying28
  have HB := Aside0.mk (Below.refl w.heap.size w)
  have H : ((impl_isIndex.f a0).bind fun t224 => (if t224 = true then ((impl_unit.f 4).bind fun t225 => (if 0 ≤ a0 then (if a0 < (t225.length : Int) then ((some (t225.set (a0 : Int).toNat (([2, 2, 2, 2] : List Int)) : List (List Int))).bind fun y232 => (if a0 < ((rd_L1 y232 a0).length : Int) then (some ((y232.set (a0 : Int).toNat ((rd_L1 y232 a0).set (a0 : Int).toNat (-1))), true)) else (none))) else (none)) else (none))) else (some (([] : List (List Int)), false)))) = some (r1, r2) := h
  clear h
  replace H := Option.bind_eq_some_iff.mp H
  obtain ⟨t224, A20, H⟩ := H
  replace H : (if t224 = true then ((impl_unit.f 4).bind fun t225 => (if 0 ≤ a0 then (if a0 < (t225.length : Int) then ((some (t225.set (a0 : Int).toNat (([2, 2, 2, 2] : List Int)) : List (List Int))).bind fun y232 => (if a0 < ((rd_L1 y232 a0).length : Int) then (some ((y232.set (a0 : Int).toNat ((rd_L1 y232 a0).set (a0 : Int).toNat (-1))), true)) else (none))) else (none)) else (none))) else (some (([] : List (List Int)), false))) = some (r1, r2) := H
  have A2 := Aside0.mk A20
  clear A20
  by_cases c3 : t224 = true
  · subst c3
    have H1 : ((impl_unit.f 4).bind fun t225 => (if 0 ≤ a0 then (if a0 < (t225.length : Int) then ((some (t225.set (a0 : Int).toNat (([2, 2, 2, 2] : List Int)) : List (List Int))).bind fun y232 => (if a0 < ((rd_L1 y232 a0).length : Int) then (some ((y232.set (a0 : Int).toNat ((rd_L1 y232 a0).set (a0 : Int).toNat (-1))), true)) else (none))) else (none)) else (none))) = some (r1, r2) := by rw [if_pos rfl] at H; exact H
    clear H
    have H := H1
    clear H1
    replace H := Option.bind_eq_some_iff.mp H
    obtain ⟨t225, A40, H⟩ := H
    replace H : (if 0 ≤ a0 then (if a0 < (t225.length : Int) then ((some (t225.set (a0 : Int).toNat (([2, 2, 2, 2] : List Int)) : List (List Int))).bind fun y232 => (if a0 < ((rd_L1 y232 a0).length : Int) then (some ((y232.set (a0 : Int).toNat ((rd_L1 y232 a0).set (a0 : Int).toNat (-1))), true)) else (none))) else (none)) else (none)) = some (r1, r2) := H
    have A4 := Aside0.mk A40
    clear A40
    obtain ⟨y229, hy229⟩ : ∃ y_ : List Int, y_ = (([2, 2, 2, 2] : List Int)) := ⟨_, rfl⟩
    replace H : (if 0 ≤ a0 then (if a0 < (t225.length : Int) then ((some (t225.set (a0 : Int).toNat y229 : List (List Int))).bind fun y232 => (if a0 < ((rd_L1 y232 a0).length : Int) then (some ((y232.set (a0 : Int).toNat ((rd_L1 y232 a0).set (a0 : Int).toNat (-1))), true)) else (none))) else (none)) else (none)) = some (r1, r2) := by first | (rw [hy229]; with_reducible exact H) | (have H2_ := (Option.bind_some _ _).symm.trans H; rw [hy229]; with_reducible exact H2_) | (have H2_ := (Option.bind_some _ _).symm.trans H; with_reducible exact H2_) | with_reducible exact H | (rw [hy229]; exact H) | exact H
    have Ny229 := Aside0.mk hy229
    clear hy229
    by_cases c5 : 0 ≤ a0
    · rw [if_pos c5] at H
      have c5b0 : decide (0 ≤ a0) = true := decide_eq_true c5
      clear c5
      by_cases c6 : a0 < (t225.length : Int)
      · rw [if_pos c6] at H
        have c6b0 : decide (a0 < (t225.length : Int)) = true := decide_eq_true c6
        clear c6
        obtain ⟨y232, hy232⟩ : ∃ y_ : List (List Int), y_ = (t225.set (a0 : Int).toNat y229) := ⟨_, rfl⟩
        replace H : (if a0 < ((rd_L1 y232 a0).length : Int) then (some ((y232.set (a0 : Int).toNat ((rd_L1 y232 a0).set (a0 : Int).toNat (-1))), true)) else (none)) = some (r1, r2) := by first | (rw [hy232]; with_reducible exact H) | (have H2_ := (Option.bind_some _ _).symm.trans H; rw [hy232]; with_reducible exact H2_) | (have H2_ := (Option.bind_some _ _).symm.trans H; with_reducible exact H2_) | with_reducible exact H | (rw [hy232]; exact H) | exact H
        have Ny232 := Aside0.mk hy232
        clear hy232
        by_cases c8 : a0 < ((rd_L1 y232 a0).length : Int)
        · rw [if_pos c8] at H
          have c8b0 : decide (a0 < ((rd_L1 y232 a0).length : Int)) = true := decide_eq_true c8
          clear c8
          obtain ⟨y234, hy234⟩ : ∃ y_ : List Int, y_ = ((rd_L1 y232 a0).set (a0 : Int).toNat (-1)) := ⟨_, rfl⟩
          replace H : (some ((y232.set (a0 : Int).toNat y234), true)) = some (r1, r2) := by first | (rw [hy234]; with_reducible exact H) | (have H2_ := (Option.bind_some _ _).symm.trans H; rw [hy234]; with_reducible exact H2_) | (have H2_ := (Option.bind_some _ _).symm.trans H; with_reducible exact H2_) | with_reducible exact H | (rw [hy234]; exact H) | exact H
          have Ny234 := Aside0.mk hy234
          clear hy234
          obtain ⟨y236, hy236⟩ : ∃ y_ : List (List Int), y_ = (y232.set (a0 : Int).toNat y234) := ⟨_, rfl⟩
          replace H : (some (y236, true)) = some (r1, r2) := by first | (rw [hy236]; with_reducible exact H) | (have H2_ := (Option.bind_some _ _).symm.trans H; rw [hy236]; with_reducible exact H2_) | (have H2_ := (Option.bind_some _ _).symm.trans H; with_reducible exact H2_) | with_reducible exact H | (rw [hy236]; exact H) | exact H
          have Ny236 := Aside0.mk hy236
          clear hy236
          simp only [Option.some.injEq, Prod.mk.injEq] at H
          obtain ⟨rfl, rfl⟩ := H
          go_enter Try.func31, Try.ntmps31
          go_wp2_with (first | ((with_reducible refine gate_dst (N := 2) rfl ?_); refine box_event ?hg (N := 2) ?hd (cs := #[.slice none 0 0]) (t := 28) ?hr ?_; (case hd => rfl); (case hg => rfl); (case hr => first | (go_simp; done) | (go_simp; rfl)); intro gb223 hg w10 hbox hb; have n0_ := Aside0.mk (below_step (by repeat (first | (with_reducible first | exact HB.out | apply below_alloc | apply pw_below_drewN | apply below_drew1) | exact HB.out)) hb); have n1_ := Aside0.mk (hbox); have n2_ := Aside0.mk ((by rw [hg]; exact (below_size (by repeat (first | (with_reducible first | exact HB.out | apply below_alloc | apply pw_below_drewN | apply below_drew1) | exact HB.out))) : w.heap.size ≤ gb223)); have n3_ := Aside0.mk ((by rw [hg]; exact (below_size (by repeat (first | (with_reducible first | exact HB.out | apply below_alloc | apply pw_below_drewN | apply below_drew1) | exact HB.out))) : w.heap.size ≤ gb223)); clear HB; have HB := n0_; have BK223 := n1_; have GW223 := n2_; have GE223 := n3_; clear n0_ n1_ n2_ n3_; clear hb hbox hg) | ((with_reducible refine gate_callee (f := 72) rfl ?_); refine goesL_ (some 6) rfl rfl Try.func72 (by kernel_rfl) rfl #[.int .i64 a0] rfl (by (try simp only [List.map_toArray, List.map_cons, List.map_nil]); first | done | rfl | (simp only [List.length_drop, List.length_take]; rfl)) ?_; (with_reducible refine (impl_isIndex.calls a0 true _ A2.out).mono ?_); rintro e w' ⟨rfl, ⟨nd, rfl⟩⟩; refine ⟨_, rfl, ?_⟩; (try (rw [drewN_self w10]; generalize hq_ : World.drewN w10 _ = w10; have n0_ : Aside0 (w10.heap[gb223]? = some (.cells #[.slice none 0 0] 28 (0, 0))) := ⟨by rw [← hq_]; exact (by (with_reducible repeat (first | refine blk_drewN ?_ _ | refine blk_drew ?_ | refine blk_alloc ?_ _)); exact BK223.out)⟩; have n1_ : Aside0 (Below w.heap.size w w10) := ⟨by rw [← hq_]; exact (by repeat (first | (with_reducible first | exact HB.out | apply below_alloc | apply pw_below_drewN | apply below_drew1 | refine below_set ?_ GE223.out) | exact HB.out))⟩; clear BK223 HB hq_; have BK223 := n0_; have HB := n1_; clear n0_ n1_))) | ((with_reducible refine gate_callee (f := 73) rfl ?_); refine goesL_ (some 9) rfl rfl Try.func73 (by kernel_rfl) rfl #[.int .i64 4] rfl (by (try simp only [List.map_toArray, List.map_cons, List.map_nil]); first | done | rfl | (simp only [List.length_drop, List.length_take]; rfl)) ?_; (with_reducible refine (impl_unit.calls 4 t225 _ A4.out).mono ?_); rintro e w11 ⟨v226, rfl, ho0, hb⟩; refine ⟨_, rfl, ?_⟩; have n0_ := Aside0.mk (Kd.S_lower ho0 (below_size (by repeat (first | (with_reducible first | exact HB.out | apply below_alloc | apply pw_below_drewN | apply below_drew1 | refine below_set ?_ GE223.out) | exact HB.out)))); have n1_ := Aside0.mk (blk_below (g := gb223) (o := .cells #[.slice none 0 0] 28 (0, 0)) (by (with_reducible repeat (first | refine blk_drewN ?_ _ | refine blk_drew ?_ | refine blk_alloc ?_ _)); exact BK223.out) hb); have n2_ := Aside0.mk (below_step (by repeat (first | (with_reducible first | exact HB.out | apply below_alloc | apply pw_below_drewN | apply below_drew1 | refine below_set ?_ GE223.out) | exact HB.out)) hb); clear BK223; clear HB; have HO227 := n0_; have BK223 := n1_; have HB := n2_; clear n0_ n1_ n2_; (try clear hb); (try clear hb2); (try clear hk); (try clear hi); (try clear ho0)) | ((with_reducible refine gate_dst (N := 4) rfl ?_); refine box_event ?hg (N := 4) ?hd (cs := #[.slice none 0 0]) (t := 28) ?hr ?_; (case hd => rfl); (case hg => rfl); (case hr => first | (go_simp; done) | (go_simp; rfl)); intro gb228 hg w12 hbox hb; have n0_ := Aside0.mk (Kd.S_below (by (with_reducible repeat (first | apply Kd.S_alloc | apply Kd.S_drewN | apply Kd.S_drew)); exact HO227.out) hb); have n1_ := Aside0.mk (blk_below (g := gb223) (o := .cells #[.slice none 0 0] 28 (0, 0)) (by (with_reducible repeat (first | refine blk_drewN ?_ _ | refine blk_drew ?_ | refine blk_alloc ?_ _)); exact BK223.out) hb); have n2_ := Aside0.mk (below_step (by repeat (first | (with_reducible first | exact HB.out | apply below_alloc | apply pw_below_drewN | apply below_drew1 | refine below_set ?_ GE223.out) | exact HB.out)) hb); have n3_ := Aside0.mk (hbox); have n4_ := Aside0.mk ((by rw [hg]; exact (below_size (by repeat (first | (with_reducible first | exact HB.out | apply below_alloc | apply pw_below_drewN | apply below_drew1 | refine below_set ?_ GE223.out) | exact HB.out))) : w.heap.size ≤ gb228)); have n5_ := Aside0.mk ((by rw [hg]; exact (below_size (by repeat (first | (with_reducible first | exact HB.out | apply below_alloc | apply pw_below_drewN | apply below_drew1 | refine below_set ?_ GE223.out) | exact HB.out))) : w.heap.size ≤ gb228)); have n6_ := Aside0.mk ((by rw [hg]; exact Nat.ne_of_lt (blk_lt (g := gb223) (o := .cells #[.slice none 0 0] 28 (0, 0)) (by (with_reducible repeat (first | refine blk_drewN ?_ _ | refine blk_drew ?_ | refine blk_alloc ?_ _)); exact BK223.out)) : gb223 ≠ gb228)); have n7_ := Aside0.mk ((by rw [hg]; exact Nat.ne_of_gt (blk_lt (g := gb223) (o := .cells #[.slice none 0 0] 28 (0, 0)) (by (with_reducible repeat (first | refine blk_drewN ?_ _ | refine blk_drew ?_ | refine blk_alloc ?_ _)); exact BK223.out)) : gb228 ≠ gb223)); clear HO227; clear BK223; clear HB; have HO227 := n0_; have BK223 := n1_; have HB := n2_; have BK228 := n3_; have GW228 := n4_; have GE228 := n5_; have NB223_228 := n6_; have NB228_223 := n7_; clear n0_ n1_ n2_ n3_ n4_ n5_ n6_ n7_; clear hb hbox hg; obtain ⟨Ao13, co13, eo13⟩ := Kd.S_slice HO227.out; subst eo13; have hnb14 := NB228_223.out; have hnc14 := NB223_228.out; have hcz15_0 : w12.cell? ⟨gb228, 0, none⟩ = some (.slice none 0 0) := (blk_cell BK228.out 0).trans rfl; have hfz15_0 := blk_frozen BK228.out 0) | ((with_reducible refine gate_dst (N := 13) rfl ?_); refine Kd.R_lit (Kd.int .i64) _ 3 ?hg (N := 13) ?hd (xs := ([2, 2, 2, 2] : List Int)) (inner := [.int .i64 2, .int .i64 2, .int .i64 2, .int .i64 2]) (ok := fun _ => True) (okp := fun _ => True) ?hr ?hp (fun _ hk => hk) trivial (Below.refl _ _) (Nat.le_refl _) (by simp) ?_; (case hd => rfl); (case hg => rfl); (case hr => first | (go_simp; done) | (go_simp; rfl)); (case hp => exact (Reps.one (show Kd.M (Kd.int .i64) _ _ _ 2 [.int .i64 2] from rfl) (Reps.one (show Kd.M (Kd.int .i64) _ _ _ 2 [.int .i64 2] from rfl) (Reps.one (show Kd.M (Kd.int .i64) _ _ _ 2 [.int .i64 2] from rfl) (Reps.one (show Kd.M (Kd.int .i64) _ _ _ 2 [.int .i64 2] from rfl) (Reps.none _ _)))))); intro v230 w16 ho17 hb hg_ hnew_; clear hg_ hnew_; (first | rw [← Ny229.out] at ho17 | (simp only [Int.reduceToNat] at ho17; rw [← Ny229.out] at ho17)); have n0_ := Aside0.mk (Kd.S_elder' (by (with_reducible repeat (first | apply Kd.S_alloc | apply Kd.S_drewN | apply Kd.S_drew)); exact (Kd.S_mono (Kd.S_far (p := ⟨gb228, 0, none⟩) (Kd.S_types HO227.out BK228.out (by decide)) (fun _ hk => hk.2) (.slice Ao13 t225.length co13)) (fun _ h_ => h_.1))) (Kd.R_base ho17) hb); have n1_ := Aside0.mk (Kd.R_lower ho17 (below_size (by repeat (first | (with_reducible first | exact HB.out | apply below_alloc | apply pw_below_drewN | apply below_drew1 | refine below_set ?_ GE223.out | refine below_set ?_ GE228.out) | exact HB.out)))); have n2_ := Aside0.mk (blk_below (g := gb223) (o := .cells #[.slice none 0 0] 28 (0, 0)) (by (with_reducible repeat (first | refine blk_drewN ?_ _ | refine blk_drew ?_ | refine blk_alloc ?_ _)); refine blk_far ?_ NB223_228.out _; (with_reducible repeat (first | refine blk_drewN ?_ _ | refine blk_drew ?_ | refine blk_alloc ?_ _)); exact BK223.out) hb); have n3_ := Aside0.mk (blk_below (g := gb228) (o := .cells #[.slice Ao13 t225.length co13] 28 (0, 0)) (by (with_reducible repeat (first | refine blk_drewN ?_ _ | refine blk_drew ?_ | refine blk_alloc ?_ _)); refine blk_put (cs := #[.slice none 0 0]) ?_ 0 _ rfl; (with_reducible repeat (first | refine blk_drewN ?_ _ | refine blk_drew ?_ | refine blk_alloc ?_ _)); exact BK228.out) hb); have n4_ := Aside0.mk (below_step (by repeat (first | (with_reducible first | exact HB.out | apply below_alloc | apply pw_below_drewN | apply below_drew1 | refine below_set ?_ GE223.out | refine below_set ?_ GE228.out) | exact HB.out)) hb); clear HO227; clear BK223; clear BK228; clear HB; have HO227 := n0_; have HO231 := n1_; have BK223 := n2_; have BK228 := n3_; have HB := n4_; clear n0_ n1_ n2_ n3_ n4_; obtain ⟨Av230, cv230, ev230⟩ := Kd.R_slice HO231.out; subst ev230; clear hb ho17; have p7 : 0 ≤ (a0 : Int) := of_decide_eq_true (by first | (with_reducible assumption) | assumption); have q7 : (a0 : Int) < ((t225.length : Int) : Int) := of_decide_eq_true (by first | (with_reducible assumption) | assumption); obtain ⟨go7, co7, eo7, gb7, gl7, cl7, HG7⟩ := Kd.S_form HO227.out (by omega); (first | cases eo7 | (injection eo7 with ea_ en_ ec_; (first | subst ea_ | (injection ea_ with ea_; subst ea_)); subst ec_; clear en_)); have GB7 := Aside0.mk gb7; have GG7 := Aside0.mk HG7; clear gb7 gl7 HG7; obtain ⟨_, ce7, hcl7, hM7, hcc7, hfr7, _, _⟩ := Kd.S_elem HO227.out [] (a0 : Int) p7 q7; obtain ⟨ve7_0, rfl, ge7_0⟩ := hM7; have hx7_0 := hcc7 0 _ rfl; have hf7_0 := hfr7 0; (try simp only [show ((Kd.slice 3 (Kd.int .i64))).sz = 1 from rfl, Nat.mul_one, Nat.add_zero] at hx7_0); (try simp only [show ((Kd.slice 3 (Kd.int .i64))).sz = 1 from rfl, Nat.mul_one, Nat.add_zero] at hf7_0); (try clear hcl7); (try clear hcc7); (try clear hfr7); (try clear hM7); replace p7 := eq_true p7; replace q7 := eq_true q7; have n_ := Aside0.mk (Kd.S_mono (ok' := (fun k_ => some k_ ≠ ((.slice Av230 y229.length cv230) : Value).ownBlock)) HO227.out (fun k_ hk => hk.2)); clear HO227; have HO227 := n_; clear n_; have HX18 := Aside0.mk (show Kd.S (Kd.slice 3 (Kd.int .i64)) 22 w16 w.heap.size (fun k_ => ((fun _ => True)) k_ ∧ ¬ ((fun k_ => some k_ = ((.slice Av230 y229.length cv230) : Value).ownBlock)) k_) (.slice (some ⟨go7, 0, none⟩) t225.length co13) t225 from (by (with_reducible repeat (first | apply Kd.S_alloc | apply Kd.S_drewN | apply Kd.S_drew)); exact Kd.S_mono HO227.out (fun k_ hk => ⟨trivial, fun e_ => hk e_⟩))); obtain ⟨oki18, ce18, hcl18, hM18, hcc18, hfr18, hoki18, hH18⟩ := Kd.S_elem HX18.out [] (a0 : Int) (of_decide_eq_true (by first | (with_reducible assumption) | assumption)) (by have h_ : (a0 : Int) < ((t225.length : Int) : Int) := of_decide_eq_true (by first | (with_reducible assumption) | assumption); first | exact h_ | (have e_ := (Kd.S_reads' HO227.out).1; omega) | simpa using h_); obtain ⟨ve18_0, rfl, ge18_0⟩ := hM18; have HP18 := Kd.S_seg hH18 (of_decide_eq_true (by first | (with_reducible assumption) | assumption)) (by have h_ : (a0 : Int) < ((t225.length : Int) : Int) := of_decide_eq_true (by first | (with_reducible assumption) | assumption); first | exact h_ | (have e_ := (Kd.S_reads' HO227.out).1; omega) | simpa using h_) (seg := [(.slice Av230 y229.length cv230)]) (j := 0) (show 1 ≤ 1 from by decide) (x' := y229) (Kd.M_row (Kd.R_mono (Kd.R_tight rfl (Kd.R_mono (ok' := fun k_ => ((fun _ => True)) k_ ∧ k_ ≠ go7) (Kd.R_apart' (HO231.out) (Kd.S_typed HO227.out) (by decide)) (fun k_ hk => ⟨trivial, fun e_ => (hk.2) (by rw [e_]; rfl)⟩))) (fun _ h_ => Or.inr (h_)))) (fun _ hk => hk) (fun k_ hk_ => ((Kd.R_mono (ok' := fun k_ => ((fun _ => True)) k_ ∧ k_ ≠ go7) (Kd.R_apart' (HO231.out) (Kd.S_typed HO227.out) (by decide)) (fun k_ hk => ⟨trivial, fun e_ => (hk.2) (by rw [e_]; rfl)⟩))).1 k_ hk_.symm); have hx18_0 := hcc18 0 _ rfl; (try simp only [show ((Kd.slice 3 (Kd.int .i64))).sz = 1 from rfl, Nat.mul_one, Nat.add_zero] at hx18_0); have hf18_0 := hfr18 0; (try simp only [show ((Kd.slice 3 (Kd.int .i64))).sz = 1 from rfl, Nat.mul_one, Nat.add_zero] at hf18_0); (try clear hcl18); (try clear hcc18); (try clear hfr18); (try clear hM18); (try clear hoki18); (try clear hH18); (try simp only [show ((Kd.slice 3 (Kd.int .i64))).sz = 1 from rfl, Nat.mul_one, Nat.add_zero] at HP18)) | ((with_reducible refine gate_store (t := 22) (p := 14) rfl ?_); refine store_event (t := 22) (p := 14) (v := ?vo_w19) (w1 := (w16.setCell ⟨go7, (a0 : Int).toNat, none⟩ ((.slice Av230 y229.length cv230)))) ?hg ?ho ?hn ?hr ?_; (case ho => rfl); (case hg => rfl); (case hn => rfl); (case hr => first | (go_simp; done) | (go_simp; rfl)); intro w19 hw; have hg : w16.grownBy w19 (some go7) := (by rw [hw]; exact HP18.2); have hp_ : Kd.S (Kd.slice 3 (Kd.int .i64)) 22 w19 w.heap.size (fun _ => True) (.slice (some ⟨go7, 0, none⟩) t225.length co13) y232 := (by rw [hw, Ny232.out]; exact HP18.1); clear HP18; have n0_ := Aside0.mk (blk_grown (g := gb223) (o := .cells #[.slice none 0 0] 28 (0, 0)) (by (with_reducible repeat (first | refine blk_drewN ?_ _ | refine blk_drew ?_ | refine blk_alloc ?_ _)); exact BK223.out) hg (Kd.S_ne HO227.out BK223.out (by decide))); have n1_ := Aside0.mk (hp_); have n2_ := Aside0.mk (blk_grown (g := gb228) (o := .cells #[.slice (some ⟨go7, 0, none⟩) t225.length co13] 28 (0, 0)) (by (with_reducible repeat (first | refine blk_drewN ?_ _ | refine blk_drew ?_ | refine blk_alloc ?_ _)); exact BK228.out) hg (Kd.S_ne HO227.out BK228.out (by decide))); have n3_ := Aside0.mk ((by rw [hw]; exact below_set (HB.out) GB7.out : Below w.heap.size w w19)); clear BK223; clear HO227; clear BK228; clear HB; clear HO231; have BK223 := n0_; have HO227 := n1_; have BK228 := n2_; have HB := n3_; clear n0_ n1_ n2_ n3_; clear hg hw hp_; have hcz20_0 : w19.cell? ⟨gb228, 0, none⟩ = some (.slice (some ⟨go7, 0, none⟩) t225.length co13) := (blk_cell BK228.out 0).trans rfl; have hfz20_0 := blk_frozen BK228.out 0; have p233 : 0 ≤ (a0 : Int) := of_decide_eq_true (by first | (with_reducible assumption) | assumption); have q233 : a0 < (y232.length : Int) := (by have h_ : (a0 : Int) < ((t225.length : Int) : Int) := of_decide_eq_true (by first | (with_reducible assumption) | assumption); first | (have e_ := (Kd.S_reads' HO227.out).1; omega) | simpa only [Ny232.out, List.length_set] using h_); have ql233 : ((a0 : Int) < ((t225.length : Int) : Int)) = True := eq_true (of_decide_eq_true (by first | (with_reducible assumption) | assumption)); obtain ⟨ad233, A233_0, c233_0, e233, hx233_0, hl233_0, hi233_0⟩ := at_L1 (Kd.S_reads' HO227.out).2.2 a0 p233 q233; obtain rfl : (⟨go7, 0, none⟩ : Addr) = ad233 := (by injection e233); obtain ⟨ce233, hce233, hMe233, hcc233⟩ := Kd.S_get HO227.out [] a0 p233 (by first | exact q233 | exact of_decide_eq_true (by first | (with_reducible assumption) | assumption) | (have e_ := (Kd.S_reads' HO227.out).1; omega)); obtain ⟨ve233_0, rfl, ge233_0⟩ := hMe233; have hv233_0 := hcc233 0 _ rfl; rw [Nat.add_zero, show ((Kd.slice 3 (Kd.int .i64))).sz = 1 from rfl, Nat.mul_one] at hv233_0; replace hv233_0 := Option.some.inj (hv233_0.symm.trans hx233_0); rw [hv233_0] at ge233_0; have HL233_0 := Aside0.mk (show Kd.R (Kd.int .i64) 3 _ _ _ _ (rd_L1 y232 a0) from ge233_0); clear hv233_0 ge233_0; have HX233_0 := Aside0.mk hx233_0; clear hcc233 hce233; (first | simp only [add_plain] at hx233_0 | simp only [add_at] at hx233_0 | simp only [Addr.add, Nat.zero_add] at hx233_0 | skip); have HR233_0 := Aside0.mk hi233_0; have HC233_0 := Aside0.mk hl233_0; clear hi233_0 hl233_0; replace p233 := eq_true p233; replace q233 := eq_true q233; have p9 : 0 ≤ (a0 : Int) := of_decide_eq_true (by first | (with_reducible assumption) | assumption); have q9 : (a0 : Int) < (((rd_L1 y232 a0).length : Int) : Int) := of_decide_eq_true (by first | (with_reducible assumption) | assumption); obtain ⟨go9, co9, eo9, gb9, gl9, cl9, HG9⟩ := Kd.R_form HL233_0.out (by omega); (first | cases eo9 | (injection eo9 with ea_ en_ ec_; (first | subst ea_ | (injection ea_ with ea_; subst ea_)); subst ec_; clear en_)); have GB9 := Aside0.mk gb9; have GG9 := Aside0.mk HG9; clear gb9 gl9 HG9; obtain ⟨hx9_0, hf9_0⟩ := Kd.R_celln 0 HL233_0.out (a0 : Int) p9 q9; replace p9 := eq_true p9; replace q9 := eq_true q9; have hq21 : (a0 : Int) < (y232.length : Int) := (by have h_ : (a0 : Int) < ((t225.length : Int) : Int) := of_decide_eq_true (by first | (with_reducible assumption) | assumption); first | exact h_ | (have e_ := (Kd.S_reads' HO227.out).1; omega) | simpa only [Ny232.out, List.length_set] using h_); obtain ⟨oki21, ce21, hcl21, hM21, hcc21, hok21, hbk21⟩ := Kd.S_borrow HO227.out [] (a0 : Int) (of_decide_eq_true (by first | (with_reducible assumption) | assumption)) (by first | exact hq21 | (have e_ := (Kd.S_reads' HO227.out).1; omega)); obtain ⟨ve21_0, rfl, ge21_0⟩ := hM21; have hv21 := hcc21 0 _ rfl; rw [Nat.add_zero, show ((Kd.slice 3 (Kd.int .i64))).sz = 1 from rfl, Nat.mul_one] at hv21; replace hv21 := Option.some.inj (hv21.symm.trans HX233_0.out); subst hv21; clear hcc21 hcl21; replace ge21_0 := (show Kd.R (Kd.int .i64) 3 _ _ _ _ (rd_L1 y232 a0) from ge21_0); have HP21 := Kd.R_putg ge21_0 (a0 : Int) (-1)) | ((with_reducible refine gate_store (t := 3) (p := 21) rfl ?_); refine store_event (t := 3) (p := 21) (v := ?vo_w22) (w1 := (w19.setCell ⟨go9, (a0 : Int).toNat, none⟩ (.int .i64 (-1)))) ?hg ?ho ?hn ?hr ?_; (case ho => rfl); (case hg => rfl); (case hn => rfl); (case hr => first | (go_simp; done) | (go_simp; rfl)); intro w22 hw; have hg : w19.grownBy w22 (some go9) := (by rw [hw]; exact HP21.2); have hz_ : Kd.R (Kd.int .i64) 3 w22 w.heap.size oki21 (.slice (some ⟨go9, 0, none⟩) (rd_L1 y232 a0).length c233_0) y234 := (by rw [hw, Ny234.out]; exact HP21.1); have hp_ : Kd.S (Kd.slice 3 (Kd.int .i64)) 22 w22 w.heap.size (fun _ => True) (.slice (some ⟨go7, 0, none⟩) t225.length co13) y236 := (by rw [Ny236.out]; exact hbk21 hg (fun k_ e_ => by injection e_ with e_; subst e_; exact ge21_0.1 _ rfl) (Kd.M_row hz_)); have hm_ := Kd.R_mono hz_ hok21; clear HP21 hbk21; have n0_ := Aside0.mk (blk_grown (g := gb223) (o := .cells #[.slice none 0 0] 28 (0, 0)) (by (with_reducible repeat (first | refine blk_drewN ?_ _ | refine blk_drew ?_ | refine blk_alloc ?_ _)); exact BK223.out) hg (Kd.R_ne HL233_0.out BK223.out (by decide))); have n1_ := Aside0.mk (hp_); have n2_ := Aside0.mk (blk_grown (g := gb228) (o := .cells #[.slice (some ⟨go7, 0, none⟩) t225.length co13] 28 (0, 0)) (by (with_reducible repeat (first | refine blk_drewN ?_ _ | refine blk_drew ?_ | refine blk_alloc ?_ _)); exact BK228.out) hg (Kd.R_ne HL233_0.out BK228.out (by decide))); have n3_ := Aside0.mk ((by rw [hw]; exact below_set (HB.out) GB9.out : Below w.heap.size w w22)); have n4_ := Aside0.mk (hm_); have n5_ := Aside0.mk ((Kd.R_reads' hm_).2.1); clear BK223; clear HO227; clear BK228; clear HB; clear HL233_0; have BK223 := n0_; have HO227 := n1_; have BK228 := n2_; have HB := n3_; have HL237 := n4_; have HC235 := n5_; clear n0_ n1_ n2_ n3_ n4_ n5_; clear hg hw hp_ hz_ hm_ hok21; have hcz23_0 : w22.cell? ⟨gb228, 0, none⟩ = some (.slice (some ⟨go7, 0, none⟩) t225.length co13) := (blk_cell BK228.out 0).trans rfl; have hfz23_0 := blk_frozen BK228.out 0; have hcz24_0 : w22.cell? ⟨gb223, 0, none⟩ = some (.slice none 0 0) := (blk_cell BK223.out 0).trans rfl; have hfz24_0 := blk_frozen BK223.out 0))
          refine bodyPost_ret (results_ct rfl _ _ gb223 28 #[.slice (some ⟨go7, 0, none⟩) t225.length co13] (0, 0) _ rfl (by (with_reducible repeat (first | refine blk_drewN ?_ _ | refine blk_drew ?_ | refine blk_alloc ?_ _)); refine blk_put (cs := #[.slice none 0 0]) ?_ 0 _ rfl; (with_reducible repeat (first | refine blk_drewN ?_ _ | refine blk_drew ?_ | refine blk_alloc ?_ _)); exact BK223.out) Try.underlying28 rfl (by kernel_rfl)) rfl ?_
          exact ⟨_, by first | rfl | (simp [errW_none, errW_some] <;> rfl) | (simp [*, errW_none, errW_some] <;> rfl), by (with_reducible repeat (first | apply Kd.S_alloc | apply Kd.S_drewN | apply Kd.S_drew)); exact Kd.S_mono (Kd.S_far (p := ⟨gb223, 0, none⟩) (Kd.S_types HO227.out BK223.out (by decide)) (fun _ hk => hk.2) (.slice (some ⟨go7, 0, none⟩) t225.length co13)) (fun _ hk => trivial), by repeat (first | (with_reducible first | exact HB.out | apply below_alloc | apply pw_below_drewN | apply below_drew1 | refine below_set ?_ GE223.out | refine below_set ?_ GE228.out) | exact HB.out)⟩
        · rw [if_neg c8] at H
          exact absurd H (by simp)
      · rw [if_neg c6] at H
        exact absurd H (by simp)
    · rw [if_neg c5] at H
      exact absurd H (by simp)
  · replace c3 := Bool.eq_false_iff.mpr c3
    subst c3
    have H1 : (some (([] : List (List Int)), false)) = some (r1, r2) := by rw [if_neg (show ¬ (false = true) by decide)] at H; exact H
    clear H
    have H := H1
    clear H1
    simp only [Option.some.injEq, Prod.mk.injEq] at H
    obtain ⟨rfl, rfl⟩ := H
    go_enter Try.func31, Try.ntmps31
    go_wp2_with (first | ((with_reducible refine gate_dst (N := 2) rfl ?_); refine box_event ?hg (N := 2) ?hd (cs := #[.slice none 0 0]) (t := 28) ?hr ?_; (case hd => rfl); (case hg => rfl); (case hr => first | (go_simp; done) | (go_simp; rfl)); intro gb223 hg w25 hbox hb; have n0_ := Aside0.mk (below_step (by repeat (first | (with_reducible first | exact HB.out | apply below_alloc | apply pw_below_drewN | apply below_drew1) | exact HB.out)) hb); have n1_ := Aside0.mk (hbox); have n2_ := Aside0.mk ((by rw [hg]; exact (below_size (by repeat (first | (with_reducible first | exact HB.out | apply below_alloc | apply pw_below_drewN | apply below_drew1) | exact HB.out))) : w.heap.size ≤ gb223)); have n3_ := Aside0.mk ((by rw [hg]; exact (below_size (by repeat (first | (with_reducible first | exact HB.out | apply below_alloc | apply pw_below_drewN | apply below_drew1) | exact HB.out))) : w.heap.size ≤ gb223)); clear HB; have HB := n0_; have BK223 := n1_; have GW223 := n2_; have GE223 := n3_; clear n0_ n1_ n2_ n3_; clear hb hbox hg) | ((with_reducible refine gate_callee (f := 72) rfl ?_); refine goesL_ (some 6) rfl rfl Try.func72 (by kernel_rfl) rfl #[.int .i64 a0] rfl (by (try simp only [List.map_toArray, List.map_cons, List.map_nil]); first | done | rfl | (simp only [List.length_drop, List.length_take]; rfl)) ?_; (with_reducible refine (impl_isIndex.calls a0 false _ A2.out).mono ?_); rintro e w' ⟨rfl, ⟨nd, rfl⟩⟩; refine ⟨_, rfl, ?_⟩; (try (rw [drewN_self w25]; generalize hq_ : World.drewN w25 _ = w25; have n0_ : Aside0 (w25.heap[gb223]? = some (.cells #[.slice none 0 0] 28 (0, 0))) := ⟨by rw [← hq_]; exact (by (with_reducible repeat (first | refine blk_drewN ?_ _ | refine blk_drew ?_ | refine blk_alloc ?_ _)); exact BK223.out)⟩; have n1_ : Aside0 (Below w.heap.size w w25) := ⟨by rw [← hq_]; exact (by repeat (first | (with_reducible first | exact HB.out | apply below_alloc | apply pw_below_drewN | apply below_drew1 | refine below_set ?_ GE223.out) | exact HB.out))⟩; clear BK223 HB hq_; have BK223 := n0_; have HB := n1_; clear n0_ n1_)); have hcz26_0 : w25.cell? ⟨gb223, 0, none⟩ = some (.slice none 0 0) := (blk_cell BK223.out 0).trans rfl; have hfz26_0 := blk_frozen BK223.out 0))
    refine bodyPost_ret (results_ct rfl _ _ gb223 28 #[.slice none 0 0] (0, 0) _ rfl (by (with_reducible repeat (first | refine blk_drewN ?_ _ | refine blk_drew ?_ | refine blk_alloc ?_ _)); refine blk_put (cs := #[.slice none 0 0]) ?_ 0 _ rfl; (with_reducible repeat (first | refine blk_drewN ?_ _ | refine blk_drew ?_ | refine blk_alloc ?_ _)); exact BK223.out) Try.underlying28 rfl (by kernel_rfl)) rfl ?_
    exact ⟨_, by first | rfl | (simp [errW_none, errW_some] <;> rfl) | (simp [*, errW_none, errW_some] <;> rfl), by first | exact Kd.S_nil _ _ _ _ _ | exact Kd.N_nil _ _ _ _ _ | exact Kd.V_nil _ _ _ _ _ | exact Kd.Q_nil _ _ _ _ _ | exact Kd.R_nil _ _ _ _ _, by repeat (first | (with_reducible first | exact HB.out | apply below_alloc | apply pw_below_drewN | apply below_drew1 | refine below_set ?_ GE223.out) | exact HB.out)⟩

/-! ### laws_FnExactSwapMatrix: function 6 -/
def laws_FnExactSwapMatrix.Pure : Prop := ∀ (a0 : Int), (Lit.int .i64 a0).wf = true →
  ∃ k r b, spec_SwapMatrix.f k a0 = some (r, b) ∧ impl_SwapMatrix.f a0 = some (r, b) ∧ (r.length : Int) ≤ 9223372036854775806 ∧ (cellsOf r : Int) + 1 ≤ 4611686018427387904
set_option maxHeartbeats 16000000 in
set_option maxRecDepth 100000 in
theorem laws_FnExactSwapMatrix.walk (P : laws_FnExactSwapMatrix.Pure) (a0 : Int) (w : World) (w0_ : (Lit.int .i64 a0).wf = true) :
    Calls Try.prog 6 #[.int .i64 a0] w fun e w' => e = .returned (.bool true) ∧ Below w.heap.size w w' := by
  obtain ⟨k, r, b, HS0, HI0, hl, hc⟩ := P a0 w0_
  have hu := Try.underlying28
  have HS := Aside0.mk HS0
  have HI := Aside0.mk HI0
  have HE := Aside0.mk (show laws_eqMatrix.f (r.length + cellsOf r + 2) r r = some true by unfold laws_eqMatrix.f; rw [eqIntSS_refl r hl (by omega) (r.length + cellsOf r + 2) (by omega)]; rfl)
  have HM := Aside0.mk (markIntSS_f r (r.length + cellsOf r + 2) (by omega) hl hc)
  have HH := Aside0.mk (show laws_heldMatrix.f (r.length + cellsOf r + 2) (mkS 1 r) 1 = some (1 + (cellsOf r : Int)) by unfold laws_heldMatrix.f; rw [heldIntSS_f r (r.length + cellsOf r + 2) (by omega) hl hc]; simp only [Option.bind_some]; rw [if_neg (by omega)])
  have HML := Aside0.mk (mkS_length r 1)
  have hm0 : (0 : Int) ≤ cellsOf r := by omega
  have hm1 : (cellsOf r : Int) ≤ 4611686018427387904 := by omega
  have HP := Aside0.mk P
  clear HS0 HI0 hl hc P w0_
  replace HP := Aside0.mk trivial
  generalize mkS 1 r = r2 at HM HH HML
  generalize hcc : (cellsOf r : Int) = c at HM HH hm0 hm1
  clear hcc
  go_enter Try.func6, Try.ntmps6
  go_wp2_with fail
  refine (spec_SwapMatrix.calls k a0 _ _ _ HS.out).mono ?_
  rintro e w1 ⟨vw, rfl, hw1, hb1⟩
  replace hw1 := Aside0.mk (show Kd.N (Kd.slice 3 (Kd.int .i64)) 22 w1 w.heap.size (fun _ => True) vw r from by first | exact Kd.N_mono hw1 (fun _ _ => trivial) | exact Kd.N_mono (Kd.S_N hw1) (fun _ _ => trivial) | exact Kd.N_mono (Kd.R_N hw1) (fun _ _ => trivial))
  replace hb1 := Aside0.mk hb1
  obtain ⟨Aw, cw, ew⟩ := Kd.N_slice hw1.out
  subst ew
  go_wp2_with fail
  refine (impl_SwapMatrix.calls a0 _ _ _ HI.out).mono ?_
  rintro e w2 ⟨vg, rfl, hw2, hb2⟩
  have hz : (w1.alloc (.cells #[.slice Aw r.length cw] 28)).heap.size = w1.heap.size + 1 := by simp
  have HG2 := Aside0.mk (Kd.S_lower (Kd.S_mono (Kd.S_bound hw2) (ok' := fun q => w1.heap.size < q ∧ q < w2.heap.size) (fun _ hk => ⟨by have := hk.2.1; omega, hk.2.2.1⟩)) (show w1.heap.size ≤ _ by omega))
  obtain ⟨Ag, cg, eg⟩ := Kd.R_slice (Kd.S_R HG2.out)
  subst eg
  have hn2 : w1.heap.size < w2.heap.size := Nat.lt_of_lt_of_le (by omega) hb2.size
  have BK0 := Aside0.mk (blk_below (show (w1.alloc (.cells #[.slice Aw r.length cw] 28)).heap[w1.heap.size]? = some (.cells #[.slice Aw r.length cw] 28 (0, 0)) from heap_alloc_new w1 _) hb2)
  have HB2 := Aside0.mk (show Below w1.heap.size w1 w2 from below_then (below_alloc (Below.refl _ _) _) (by simp) hb2)
  have hc0 : w2.cell? ⟨w1.heap.size, 0, none⟩ = some (.slice Aw r.length cw) := (blk_cell BK0.out 0).trans rfl
  clear hw2 hb2 hz
  go_wp2_with fail
  have HG3 := Aside0.mk (Kd.S_alloc HG2.out (.cells #[.slice Ag r.length cg] 28))
  have HB3 := Aside0.mk (HB2.out.alloc HB2.out.size (.cells #[.slice Ag r.length cg] 28))
  have BK0' := Aside0.mk (blk_alloc BK0.out (.cells #[.slice Ag r.length cg] 28))
  have BK5' := Aside0.mk (show (w2.alloc (.cells #[.slice Ag r.length cg] 28)).heap[w2.heap.size]? = some (.cells #[.slice Ag r.length cg] 28 (0, 0)) from heap_alloc_new w2 _)
  refine (laws_eqMatrix.calls (r.length + cellsOf r + 2) Ag cg r Aw cw r true _ (Kd.S_reads' HG3.out).2.2 (Kd.S_reads' HG3.out).2.1 (Kd.N_reads' (Kd.N_below hw1.out HB3.out)).2.2 (Kd.N_reads' hw1.out).2.1 HE.out).mono ?_
  rintro e w3 ⟨rfl, hb3⟩
  have B0 := Aside0.mk (blk_below BK0'.out hb3)
  have B5 := Aside0.mk (blk_below BK5'.out hb3)
  have HG := Aside0.mk (Kd.S_below HG3.out hb3)
  have HBn := Aside0.mk (show Below w1.heap.size w1 w3 from below_then HB3.out HB3.out.size hb3)
  clear BK0 BK0' BK5' HG2 HG3 HB2 HB3 hc0 hb3
  have hc5 : w3.cell? ⟨w2.heap.size, 0, none⟩ = some (.slice Ag r.length cg) := (blk_cell B5.out 0).trans rfl
  go_wp2_with fail
  refine (laws_markMatrix.calls (r.length + cellsOf r + 2) _ _ r 1 _ r2 w1 _ HBn.out HG.out HM.out).mono ?_
  rintro e w4 ⟨rfl, hg4, hb4, hk4⟩
  have C0 := Aside0.mk (blk_kept B0.out hk4 (fun hq => by omega))
  have C5 := Aside0.mk (blk_kept B5.out hk4 (fun hq => by omega))
  have HG4 := Aside0.mk hg4
  have HB4 := Aside0.mk hb4
  clear hc5 B0 B5 HG HBn hg4 hb4 hk4
  have hhd : ∀ W, Below w4.heap.size w4 W → Calls Try.prog 27 #[.agg #[.slice Ag r.length cg], .int .i64 1] W fun e w' => e = .returned (.int .i64 (1 + c)) ∧ Below W.heap.size W w' := fun W hW => by
    have hS4 := Kd.S_reads' (Kd.S_below HG4.out hW)
    have hcl := laws_heldMatrix.calls (r.length + cellsOf r + 2) Ag cg r2 1 (1 + c) W hS4.2.2 (by rw [← hS4.1]; exact hS4.2.1) HH.out
    rw [← hS4.1] at hcl
    exact hcl
  replace hhd := Aside0.mk hhd
  have hc5 : w4.cell? ⟨w2.heap.size, 0, none⟩ = some (.slice Ag r.length cg) := (blk_cell C5.out 0).trans rfl
  go_wp2_with fail
  refine (hhd.out _ (Below.refl _ _)).mono ?_
  rintro e w5 ⟨rfl, hb5⟩
  have HB5 := Aside0.mk hb5
  clear hc5 hb5
  go_wp2_with fail
  refine (impl_SwapMatrix.calls a0 _ _ _ HI.out).mono ?_
  rintro e w6 ⟨vh, rfl, hw6, hb6⟩
  have HB6 := Aside0.mk (show Below w4.heap.size w4 w6 from below_then HB5.out HB5.out.size hb6)
  have HW6 := Aside0.mk (show Kd.N (Kd.slice 3 (Kd.int .i64)) 22 w6 _ (fun _ => True) vh r from Kd.N_mono (Kd.S_N hw6) (fun _ _ => trivial))
  obtain ⟨Ah, ch, eh⟩ := Kd.N_slice HW6.out
  subst eh
  have hn6 : w2.heap.size < w6.heap.size := Nat.lt_of_lt_of_le (blk_lt C5.out) HB6.out.size
  have hn5 : w1.heap.size < w6.heap.size := by omega
  have hc0 : w6.cell? ⟨w1.heap.size, 0, none⟩ = some (.slice Aw r.length cw) := (blk_cell (blk_below C0.out HB6.out) 0).trans rfl
  clear hw6 hb6 HB5
  go_wp2_with fail
  have HB7 := Aside0.mk (HB6.out.alloc HB6.out.size (.cells #[.slice Ah r.length ch] 28))
  have HW7 := Aside0.mk (Kd.N_alloc HW6.out (.cells #[.slice Ah r.length ch] 28))
  refine (laws_eqMatrix.calls (r.length + cellsOf r + 2) Ah ch r Aw cw r true _ (Kd.N_reads' HW7.out).2.2 (Kd.N_reads' HW7.out).2.1 (Kd.N_reads' (Kd.N_below hw1.out (below_then HB4.out HB4.out.size HB7.out))).2.2 (Kd.N_reads' hw1.out).2.1 HE.out).mono ?_
  rintro e w8 ⟨rfl, hb8⟩
  have HB8 := Aside0.mk (show Below w4.heap.size w4 w8 from below_then HB7.out HB7.out.size hb8)
  clear hc0 HB6 HB7 HW6 HW7 hb8
  have hc5 : w8.cell? ⟨w2.heap.size, 0, none⟩ = some (.slice Ag r.length cg) := (blk_cell (blk_below C5.out HB8.out) 0).trans rfl
  go_wp2_with fail
  refine (hhd.out _ HB8.out).mono ?_
  rintro e w9 ⟨rfl, hb9⟩
  have HB9 := Aside0.mk (show Below w.heap.size w w9 from below_then hb1.out hb1.out.size (below_then HB4.out HB4.out.size (below_then HB8.out HB8.out.size hb9)))
  clear hb9
  go_wp2
  go_ret
  exact ⟨rfl, HB9.out⟩

/-! ### spec_l1Own: function 79 -/
def spec_l1Own.f (l0 : List Int) : Option (List Int) := (some (([] : List Int) : List Int)).bind fun y238 => (if y238.length + l0.length < 17592186044416 then (some (y238 ++ l0)) else (none))
set_option maxHeartbeats 8000000 in
set_option maxRecDepth 100000 in
theorem spec_l1Own.calls (A0 : Option Addr) (c0 : Nat) (l0 : List Int) (r : List Int) (w : World) (hr0 : Kd.C (Kd.int .i64) w A0 l0.length l0) (hc0 : l0.length ≤ c0) (h : spec_l1Own.f l0 = some r) :
    Calls Try.prog 79 #[.slice A0 l0.length c0] w fun e w' => ∃ v0_ : Value, e = .returned (v0_) ∧ Kd.R (Kd.int .i64) 3 w' w.heap.size (fun _ => True) v0_ r ∧ Below w.heap.size w w' := by
  have HR0 := Aside0.mk hr0
  have HC0 := Aside0.mk hc0
  clear hr0 hc0
  have HB := Aside0.mk (Below.refl w.heap.size w)
  have H : ((some (([] : List Int) : List Int)).bind fun y238 => (if y238.length + l0.length < 17592186044416 then (some (y238 ++ l0)) else (none))) = some r := h
  clear h
  obtain ⟨y238, hy238⟩ : ∃ y_ : List Int, y_ = (([] : List Int)) := ⟨_, rfl⟩
  replace H : (if y238.length + l0.length < 17592186044416 then (some (y238 ++ l0)) else (none)) = some r := by first | (rw [hy238]; with_reducible exact H) | (have H2_ := (Option.bind_some _ _).symm.trans H; rw [hy238]; with_reducible exact H2_) | (have H2_ := (Option.bind_some _ _).symm.trans H; with_reducible exact H2_) | with_reducible exact H | (rw [hy238]; exact H) | exact H
  have Ny238 := Aside0.mk hy238
  clear hy238
  by_cases c2 : y238.length + l0.length < 17592186044416
  · rw [if_pos c2] at H
    have LMc2 := Aside0.mk c2
    clear c2
    obtain ⟨y241, hy241⟩ : ∃ y_ : List Int, y_ = (y238 ++ l0) := ⟨_, rfl⟩
    replace H : (some y241) = some r := by first | (rw [hy241]; with_reducible exact H) | (have H2_ := (Option.bind_some _ _).symm.trans H; rw [hy241]; with_reducible exact H2_) | (have H2_ := (Option.bind_some _ _).symm.trans H; with_reducible exact H2_) | with_reducible exact H | (rw [hy241]; exact H) | exact H
    have Ny241 := Aside0.mk hy241
    clear hy241
    obtain rfl := Option.some.inj H
    go_enter Try.func79, Try.ntmps79
    go_wp2_with (first | ((with_reducible refine gate_dst (N := 3) rfl ?_); refine Kd.R_lit (Kd.int .i64) _ 3 ?hg (N := 3) ?hd (xs := ([] : List Int)) (inner := []) (ok := fun _ => True) (okp := fun _ => True) ?hr ?hp (fun _ hk => hk) trivial (Below.refl _ _) (Nat.le_refl _) (by simp) ?_; (case hd => rfl); (case hg => rfl); (case hr => first | (go_simp; done) | (go_simp; rfl)); (case hp => exact (Reps.none _ _)); intro v239 w3 ho4 hb hg_ hnew_; clear hg_ hnew_; (first | rw [← Ny238.out] at ho4 | (simp only [Int.reduceToNat] at ho4; rw [← Ny238.out] at ho4)); have n0_ := Aside0.mk (Kd.R_lower ho4 (below_size (by repeat (first | (with_reducible first | exact HB.out | apply below_alloc | apply pw_below_drewN | apply below_drew1) | exact HB.out)))); have n1_ := Aside0.mk (below_step (by repeat (first | (with_reducible first | exact HB.out | apply below_alloc | apply pw_below_drewN | apply below_drew1) | exact HB.out)) hb); clear HB; have HO240 := n0_; have HB := n1_; clear n0_ n1_; clear hb ho4) | ((with_reducible refine gate_builtin (b := .append) (xs := #[.tmp 3, .tmp 4]) rfl ?_); at_builtin; refine Kd.R_append_rows (Kd.int .i64) (w0 := w) w.heap.size rfl (.tmp 3) (.tmp 4) 22 3 (.int .i64 0) 8 rfl Try.underlying22 info3 rfl (by decide) (by omega) v239 y238 l0 _ _ _ (fun _ => True) (fun _ => False) rfl rfl ?aO ?aR (fun _ _ h => h) (fun _ h => h.elim) ?aF ?aB ?aS ?aL ?_; (case aR => repeat (first | exact (Kd.C_below HR0.out HB.out) | (with_reducible refine Kd.C_alloc ?_ _) | (with_reducible refine Kd.C_drewN ?_ _) | (with_reducible refine Kd.C_drew ?_))); (case aB => exact (by repeat (first | (with_reducible first | exact HB.out | apply below_alloc | apply pw_below_drewN | apply below_drew1) | exact HB.out))); (case aF => exact (fun _ _ => trivial)); (case aO => exact (by (with_reducible repeat (first | apply Kd.R_alloc | apply Kd.R_drewN | apply Kd.R_drew)); exact HO240.out)); (case aS => exact (below_size (by repeat (first | (with_reducible first | exact HB.out | apply below_alloc | apply pw_below_drewN | apply below_drew1) | exact HB.out)))); (case aL => have := LMc2.out; omega); intro v242 w5 ho hb hg hat; rw [← Ny241.out] at ho; have n0_ := Aside0.mk (hb); have n1_ := Aside0.mk (ho); clear HB; clear HO240; have HB := n0_; have HO243 := n1_; clear n0_ n1_; clear ho hb hg hat))
    go_ret
    exact ⟨_, by first | rfl | (simp [errW_none, errW_some] <;> rfl) | (simp [*, errW_none, errW_some] <;> rfl), by (with_reducible repeat (first | apply Kd.R_alloc | apply Kd.R_drewN | apply Kd.R_drew)); exact HO243.out, by repeat (first | (with_reducible first | exact HB.out | apply below_alloc | apply pw_below_drewN | apply below_drew1) | exact HB.out)⟩
  · rw [if_neg c2] at H
    exact absurd H (by simp)

end Go.Proofs.Ytmjodkckffmnaaa.P
