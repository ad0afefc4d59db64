/- Written by a program of this session: for Go functions that a statement reaches, Lean functions with the same answers and the proofs that the calls come to them; conditions: none but the arguments' kinds. -/
import Derived.Test.YtmnjijobpejpgaaP1
import Derived.Test.YtmnjijobpejpgaaP24
import Derived.Test.YtmnjijobpejpgaaP34
namespace Go.Proofs.Ytmnjijobpejpgaa.P
open Go.RowKit Go.Proofs.YtmnjijobpejpgaaW.PrintWords Go.Proofs.YtmnjijobpejpgaaW.PrintLast Go.Proofs.YtmnjijobpejpgaaW.PrintMore
attribute [local go_sem] max2_int min2_int max_two min_two max_three min_three max_four min_four   -- for this text's walks alone
set_option linter.unusedVariables false
set_option linter.unusedSimpArgs false

/-! ### spec_ciConfig: function 75 -/
mutual
def spec_ciConfig.l0 : Nat → List (S38) → List (S38) → Int → Int → Option (Bool)
 | 0, _, _, _, _ => none
 | k + 1, x0, x10, x11, x12 => if x12 < x11 then (if 0 ≤ x12 then (if x12 < (x10.length : Int) then (if x12 ≤ (x0.length : Int) then ((some (x0.take (x12 : Int).toNat : List (S38))).bind fun y697 => (spec_ciConfig.l1 k x0 x10 x11 x12 y697 (y697.length : Int) 0 ((rd_T38 x10 x12).f0) ((rd_T38 x10 x12).f1) ((rd_T38 x10 x12).f2) ((rd_T38 x10 x12).f3))) else (none)) else (none)) else (none)) else (some true)
def spec_ciConfig.l1 : Nat → List (S38) → List (S38) → Int → Int → List (S38) → Int → Int → Int → Int → Int → Int → Option (Bool)
 | 0, _, _, _, _, _, _, _, _, _, _, _ => none
 | k + 1, x0, x10, x11, x12, x19, x20, x21, x697000, x697001, x697002, x697003 => if x21 < x20 then (if 0 ≤ x21 then (if x21 < (x19.length : Int) then ((spec_ciTwice.f x697000 x697001 x697002 x697003 ((rd_T38 x19 x21).f0) ((rd_T38 x19 x21).f1) ((rd_T38 x19 x21).f2) ((rd_T38 x19 x21).f3)).bind fun t703 => (if t703 = (-2) then (spec_ciConfig.l1 k x0 x10 x11 x12 x19 x20 (wrap64 (x21 + 1)) x697000 x697001 x697002 x697003) else (some false))) else (none)) else (none)) else (spec_ciConfig.l0 k x0 x10 x11 (wrap64 (x12 + 1)))
end
def spec_ciConfig.f (k : Nat) (l0 : List (S38)) : Option (Bool) := (spec_ciFour.f k l0).bind fun t694 => (if t694 = true then (spec_ciConfig.l0 k l0 l0 (l0.length : Int) 0) else (some false))
theorem spec_ciConfig.mono_l : ∀ k, (∀ y0 y1 y2 y3, LeO (spec_ciConfig.l0 k y0 y1 y2 y3) (spec_ciConfig.l0 (k + 1) y0 y1 y2 y3)) ∧ (∀ y0 y1 y2 y3 y4 y5 y6 y7 y8 y9 y10, LeO (spec_ciConfig.l1 k y0 y1 y2 y3 y4 y5 y6 y7 y8 y9 y10) (spec_ciConfig.l1 (k + 1) y0 y1 y2 y3 y4 y5 y6 y7 y8 y9 y10))
 | 0 => ⟨fun _ _ _ _ r h => by simp [spec_ciConfig.l0] at h, fun _ _ _ _ _ _ _ _ _ _ _ r h => by simp [spec_ciConfig.l1] at h⟩
 | k + 1 => by
  obtain ⟨ih0, ih1⟩ := spec_ciConfig.mono_l k
  refine ⟨?_, ?_⟩
  ·
   intro y0 y1 y2 y3
   unfold spec_ciConfig.l0
   repeat' first
   | (with_reducible exact ih0 _ _ _ _)
   | (with_reducible exact ih1 _ _ _ _ _ _ _ _ _ _ _)
   | (with_reducible exact spec_ciFour.mono _ _)
   | (with_reducible exact LeO.refl _)
   | (with_reducible exact LeO.none _)
   | (with_reducible refine LeO.ite ?_ ?_)
   | (with_reducible refine LeO.bind ?_ (fun _ => ?_))
   | exact ih0 _ _ _ _
   | exact ih1 _ _ _ _ _ _ _ _ _ _ _
   | exact spec_ciFour.mono _ _
   | exact LeO.none _
   | refine LeO.ite ?_ ?_
   | refine LeO.bind ?_ (fun _ => ?_)
  ·
   intro y0 y1 y2 y3 y4 y5 y6 y7 y8 y9 y10
   unfold spec_ciConfig.l1
   repeat' first
   | (with_reducible exact ih0 _ _ _ _)
   | (with_reducible exact ih1 _ _ _ _ _ _ _ _ _ _ _)
   | (with_reducible exact spec_ciFour.mono _ _)
   | (with_reducible exact LeO.refl _)
   | (with_reducible exact LeO.none _)
   | (with_reducible refine LeO.ite ?_ ?_)
   | (with_reducible refine LeO.bind ?_ (fun _ => ?_))
   | exact ih0 _ _ _ _
   | exact ih1 _ _ _ _ _ _ _ _ _ _ _
   | exact spec_ciFour.mono _ _
   | exact LeO.none _
   | refine LeO.ite ?_ ?_
   | refine LeO.bind ?_ (fun _ => ?_)
theorem spec_ciConfig.mono : ∀ a0 k, LeO (spec_ciConfig.f k a0) (spec_ciConfig.f (k + 1) a0) := by
 intro a0 k
 obtain ⟨ih0, ih1⟩ := spec_ciConfig.mono_l k
 unfold spec_ciConfig.f
 repeat' first
   | (with_reducible exact ih0 _ _ _ _)
   | (with_reducible exact ih1 _ _ _ _ _ _ _ _ _ _ _)
   | (with_reducible exact spec_ciFour.mono _ _)
   | (with_reducible exact LeO.refl _)
   | (with_reducible exact LeO.none _)
   | (with_reducible refine LeO.ite ?_ ?_)
   | (with_reducible refine LeO.bind ?_ (fun _ => ?_))
   | exact ih0 _ _ _ _
   | exact ih1 _ _ _ _ _ _ _ _ _ _ _
   | exact spec_ciFour.mono _ _
   | exact LeO.none _
   | refine LeO.ite ?_ ?_
   | refine LeO.bind ?_ (fun _ => ?_)
set_option maxHeartbeats 8000000 in
set_option maxRecDepth 100000 in
theorem spec_ciConfig.calls (k : Nat) (A0 : Option Addr) (c0 : Nat) (l0 : List (S38)) (r : Bool) (w : World) (hr0 : Kd.C k38 w A0 l0.length l0) (hc0 : l0.length ≤ c0) (h : spec_ciConfig.f k l0 = some r) :
  Calls Try.prog 75 #[.slice A0 l0.length c0] w fun e w' => e = .returned (.bool r) ∧ Below w.heap.size w w' := by
 have hu38 := Try.underlying38
 have HR0 := Aside0.mk hr0
 have HC0 := Aside0.mk hc0
 clear hr0 hc0
 have HB := Aside0.mk (Below.refl w.heap.size w)
 have H : ((spec_ciFour.f k l0).bind fun t694 => (if t694 = true then (spec_ciConfig.l0 k l0 l0 (l0.length : Int) 0) else (some false))) = some r := h
 clear h
 replace H := Option.bind_eq_some_iff.mp H
 obtain ⟨t694, A20, H⟩ := H
 replace H : (if t694 = true then (spec_ciConfig.l0 k l0 l0 (l0.length : Int) 0) else (some false)) = some r := H
 have A2 := Aside0.mk A20
 clear A20
 by_cases c3 : t694 = true
 ·
  subst c3
  have H1 : (spec_ciConfig.l0 k l0 l0 (l0.length : Int) 0) = some r := by rw [if_pos rfl] at H; exact H
  clear H
  have H := H1
  clear H1
  have H' := Aside0.mk H
  clear H
  go_enter Try.func75, Try.ntmps75
  go_wp2_with (first | ((with_reducible refine gate_callee (f := 79) rfl ?_); refine goesL_ (some 8) rfl rfl Try.func79 (by kernel_rfl) rfl #[.slice A0 l0.length c0] rfl (by (try simp only [List.map_toArray, List.map_cons, List.map_nil]); first | done | rfl | (simp only [List.length_drop, List.length_take]; rfl)) ?_; (with_reducible refine (spec_ciFour.calls k _ _ l0 true _ ?side1 ?side2 A2.out).mono ?_); (case side1 => repeat (first | exact HR0.out | (with_reducible refine Kd.C_alloc ?_ _) | (with_reducible refine Kd.C_drewN ?_ _) | (with_reducible refine Kd.C_drew ?_))); (case side2 => exact HC0.out); rintro e w4 ⟨rfl, hb⟩; refine ⟨_, rfl, ?_⟩; have n0_ := Aside0.mk (below_step (by repeat (first | (with_reducible first | exact HB.out | apply below_alloc | apply pw_below_drewN | apply below_drew1) | exact HB.out)) hb); clear HB; have HB := n0_; clear n0_; (try clear hb); (try clear hb2); (try clear hk); (try clear hi)))
  go_loopg [12] k (fun kq v12 w' => ∃ (x12_1 : Int), v12 = .int .i64 x12_1 ∧ Aside0 (spec_ciConfig.l0 kq l0 l0 (l0.length : Int) x12_1 = some r) ∧ Aside0 (kq ≤ k) ∧ Aside0 (Below w.heap.size w w'))
  case atStart => exact ⟨(0), (by first | rfl | (simp; done) | (simp [*]; done)), H', ⟨Nat.le_refl _⟩, ⟨by repeat (first | (with_reducible first | exact HB.out | apply below_alloc | apply pw_below_drewN | apply below_drew1) | exact HB.out)⟩⟩
  case round =>
   clear H'
   try clear p2
   try clear c3
   obtain ⟨x12_1, rfl, HA, HK1, HB⟩ := hrel
   cases gk with
   | zero => exact absurd HA.out (by simp [spec_ciConfig.l0])
   | succ k1 =>
    have H := HA.out
    clear HA
    simp only [spec_ciConfig.l0] at H
    by_cases c5 : x12_1 < (l0.length : Int)
    ·
     rw [if_pos c5] at H
     have c5b0 : decide (x12_1 < (l0.length : Int)) = true := decide_eq_true c5
     clear c5
     by_cases c6 : 0 ≤ x12_1
     ·
      rw [if_pos c6] at H
      have c6b0 : decide (0 ≤ x12_1) = true := decide_eq_true c6
      clear c6
      by_cases c7 : x12_1 < (l0.length : Int)
      ·
       rw [if_pos c7] at H
       have c7b0 : decide (x12_1 < (l0.length : Int)) = true := decide_eq_true c7
       clear c7
       have c8b0 := eq_true (of_decide_eq_true (by first | (with_reducible assumption) | assumption) : 0 ≤ x12_1)
       by_cases c9 : x12_1 ≤ (l0.length : Int)
       ·
        rw [if_pos c9] at H
        have c9b0 := eq_true c9
        have c9b1 : decide (x12_1 ≤ (l0.length : Int)) = true := decide_eq_true c9
        clear c9
        obtain ⟨y697, hy697⟩ : ∃ y_ : List (S38), y_ = (l0.take (x12_1 : Int).toNat) := ⟨_, rfl⟩
        replace H : (spec_ciConfig.l1 k1 l0 l0 (l0.length : Int) x12_1 y697 (y697.length : Int) 0 ((rd_T38 l0 x12_1).f0) ((rd_T38 l0 x12_1).f1) ((rd_T38 l0 x12_1).f2) ((rd_T38 l0 x12_1).f3)) = some r := by first | (rw [hy697]; with_reducible exact H) | (have H2_ := (Option.bind_some _ _).symm.trans H; rw [hy697]; with_reducible exact H2_) | (have H2_ := (Option.bind_some _ _).symm.trans H; with_reducible exact H2_) | with_reducible exact H | (rw [hy697]; exact H) | exact H
        have Ny697 := Aside0.mk hy697
        clear hy697
        have H' := Aside0.mk H
        clear H
        have p695 : 0 ≤ (x12_1 : Int) := of_decide_eq_true (by first | (with_reducible assumption) | assumption)
        have q695 : x12_1 < (l0.length : Int) := of_decide_eq_true (by first | (with_reducible assumption) | assumption)
        obtain ⟨ad695, e695, hx695_0, hx695_1, hx695_2, hx695_3⟩ := at_T38 HR0.out x12_1 p695 q695
        cases e695
        replace hx695_0 := (HB.out.cell (World.block_lt_of_cell? w _ hx695_0)).trans hx695_0
        replace hx695_1 := (HB.out.cell (World.block_lt_of_cell? w _ hx695_1)).trans hx695_1
        replace hx695_2 := (HB.out.cell (World.block_lt_of_cell? w _ hx695_2)).trans hx695_2
        replace hx695_3 := (HB.out.cell (World.block_lt_of_cell? w _ hx695_3)).trans hx695_3
        replace p695 := eq_true p695
        replace q695 := eq_true q695
        go_wp2_with (first | ((with_reducible refine gate_dst (N := 4) rfl ?_); refine box_event ?hg (N := 4) ?hd (cs := #[.int .i64 0, .int .i64 0, .int .i64 0, .int .i64 0]) (t := 38) ?hr ?_; (case hd => rfl); (case hg => rfl); (case hr => first | (go_simp; done) | (go_simp; rfl)); intro gb696 hg w10 hbox hb; have n0_ := Aside0.mk (below_step (by repeat (first | (with_reducible first | exact HB.out | apply below_alloc | apply pw_below_drewN | apply below_drew1) | exact HB.out)) hb); have n1_ := Aside0.mk (hbox); have n2_ := Aside0.mk ((by rw [hg]; exact (below_size (by repeat (first | (with_reducible first | exact HB.out | apply below_alloc | apply pw_below_drewN | apply below_drew1) | exact HB.out))) : w.heap.size ≤ gb696)); have n3_ := Aside0.mk ((by rw [hg]; exact (below_size (by repeat (first | (with_reducible first | exact HB.out | apply below_alloc | apply pw_below_drewN | apply below_drew1) | exact HB.out))) : w.heap.size ≤ gb696)); clear HB; have HB := n0_; have BK696 := n1_; have GW696 := n2_; have GE696 := n3_; clear n0_ n1_ n2_ n3_; clear hb hbox hg; have hcz11_0 : w10.cell? ⟨gb696, 0, none⟩ = some (.int .i64 0) := (blk_cell BK696.out 0).trans rfl; have hcz11_1 : w10.cell? ⟨gb696, 1, none⟩ = some (.int .i64 0) := (blk_cell BK696.out 1).trans rfl; have hcz11_2 : w10.cell? ⟨gb696, 2, none⟩ = some (.int .i64 0) := (blk_cell BK696.out 2).trans rfl; have hcz11_3 : w10.cell? ⟨gb696, 3, none⟩ = some (.int .i64 0) := (blk_cell BK696.out 3).trans rfl; have hfz11_0 := blk_frozen BK696.out 0; have hfz11_1 := blk_frozen BK696.out 1; have hfz11_2 := blk_frozen BK696.out 2; have hfz11_3 := blk_frozen BK696.out 3) | ((with_reducible refine gate_store (t := 38) (p := 4) rfl ?_); refine store_event (t := 38) (p := 4) (v := ?vo_w12) (w1 := ((((w10.setCell ⟨gb696, 0, none⟩ (.int .i64 ((rd_T38 l0 x12_1).f0))).setCell ⟨gb696, 1, none⟩ (.int .i64 ((rd_T38 l0 x12_1).f1))).setCell ⟨gb696, 2, none⟩ (.int .i64 ((rd_T38 l0 x12_1).f2))).setCell ⟨gb696, 3, none⟩ (.int .i64 ((rd_T38 l0 x12_1).f3)))) ?hg ?ho ?hn ?hr ?_; (case ho => rfl); (case hg => rfl); (case hn => rfl); (case hr => first | (go_simp; done) | (go_simp; rfl)); intro w12 hw; have n0_ : Aside0 (w12.heap[gb696]? = some (.cells #[.int .i64 ((rd_T38 l0 x12_1).f0), .int .i64 ((rd_T38 l0 x12_1).f1), .int .i64 ((rd_T38 l0 x12_1).f2), .int .i64 ((rd_T38 l0 x12_1).f3)] 38 (0, 0))) := ⟨(by rw [hw]; exact (by (with_reducible repeat (first | refine blk_drewN ?_ _ | refine blk_drew ?_ | refine blk_alloc ?_ _)); refine blk_put (cs := #[.int .i64 ((rd_T38 l0 x12_1).f0), .int .i64 ((rd_T38 l0 x12_1).f1), .int .i64 ((rd_T38 l0 x12_1).f2), .int .i64 0]) ?_ 3 _ rfl; (with_reducible repeat (first | refine blk_drewN ?_ _ | refine blk_drew ?_ | refine blk_alloc ?_ _)); refine blk_put (cs := #[.int .i64 ((rd_T38 l0 x12_1).f0), .int .i64 ((rd_T38 l0 x12_1).f1), .int .i64 0, .int .i64 0]) ?_ 2 _ rfl; (with_reducible repeat (first | refine blk_drewN ?_ _ | refine blk_drew ?_ | refine blk_alloc ?_ _)); refine blk_put (cs := #[.int .i64 ((rd_T38 l0 x12_1).f0), .int .i64 0, .int .i64 0, .int .i64 0]) ?_ 1 _ rfl; (with_reducible repeat (first | refine blk_drewN ?_ _ | refine blk_drew ?_ | refine blk_alloc ?_ _)); refine blk_put (cs := #[.int .i64 0, .int .i64 0, .int .i64 0, .int .i64 0]) ?_ 0 _ rfl; (with_reducible repeat (first | refine blk_drewN ?_ _ | refine blk_drew ?_ | refine blk_alloc ?_ _)); exact BK696.out))⟩; have n1_ : Aside0 (Below w.heap.size w w12) := ⟨(by rw [hw]; exact (by repeat (first | (with_reducible first | exact HB.out | apply below_alloc | apply pw_below_drewN | apply below_drew1 | refine below_set ?_ GE696.out) | exact HB.out)))⟩; clear hw; clear BK696; clear HB; have BK696 := n0_; have HB := n1_; clear n0_ n1_; have q13 : (x12_1 : Int) ≤ ((l0.length : Int) : Int) := of_decide_eq_true (by first | (with_reducible assumption) | assumption); obtain ⟨i013, hi013, _, hsz13, _⟩ := info_parts info38; have hroom13 : l0.length ≤ c0 := HC0.out; have hC13 : Kd.C k38 _ (some ad695) l0.length l0 := HR0.out; have hcut13 := cut_to (P := Try.prog) 50 38 .i64 Try.underlying50 hi013 (some ad695) l0.length c0 x12_1 (of_decide_eq_true (by first | (with_reducible assumption) | assumption)) q13 hroom13; have hr13 := Kd.C_take (m := (x12_1 : Int).toNat) hC13 (by omega); have hy13 : y697.length = (x12_1 : Int).toNat := (by rw [Ny697.out, List.length_take]; omega); rw [← Ny697.out] at hr13; rw [← hy13] at hcut13; have HR700 := Aside0.mk hr13; have HC700 := Aside0.mk (show y697.length ≤ c0 from by omega); clear hr13 hC13 hroom13 hi013 hsz13; have KY13 := Aside0.mk hy13; clear hy13; replace q13 := eq_true q13))
        go_loopg [21] k1 (fun kq v21 w' => ∃ (x21_2 : Int), v21 = .int .i64 x21_2 ∧ Aside0 (spec_ciConfig.l1 kq l0 l0 (l0.length : Int) x12_1 y697 (y697.length : Int) x21_2 ((rd_T38 l0 x12_1).f0) ((rd_T38 l0 x12_1).f1) ((rd_T38 l0 x12_1).f2) ((rd_T38 l0 x12_1).f3) = some r) ∧ Aside0 (kq ≤ k1) ∧ Aside0 (w'.heap[gb696]? = some (.cells #[.int .i64 ((rd_T38 l0 x12_1).f0), .int .i64 ((rd_T38 l0 x12_1).f1), .int .i64 ((rd_T38 l0 x12_1).f2), .int .i64 ((rd_T38 l0 x12_1).f3)] 38 (0, 0))) ∧ Aside0 (Below w.heap.size w w'))
        case atStart => exact ⟨(0), (by first | rfl | (simp; done) | (simp [*]; done)), H', ⟨Nat.le_refl _⟩, ⟨by (with_reducible repeat (first | refine blk_drewN ?_ _ | refine blk_drew ?_ | refine blk_alloc ?_ _)); exact BK696.out⟩, ⟨by repeat (first | (with_reducible first | exact HB.out | apply below_alloc | apply pw_below_drewN | apply below_drew1 | refine below_set ?_ GE696.out) | exact HB.out)⟩⟩
        case round =>
         clear H'
         try clear q1
         try clear p2
         try clear c3
         try clear c5
         try clear c5b0
         try clear c6
         try clear c6b0
         try clear p6
         try clear q6
         try clear hx6
         try clear c7
         try clear c7b0
         try clear c8
         try clear c8b0
         try clear c9
         try clear c9b0
         try clear c9b1
         try clear q13
         try clear hcz11_0
         try clear hcz11_1
         try clear hcz11_2
         try clear hcz11_3
         try clear hfz11_0
         try clear hfz11_1
         try clear hfz11_2
         try clear hfz11_3
         try clear hx695_0
         try clear hx695_1
         try clear hx695_2
         try clear hx695_3
         try clear p2
         try clear p695
         try clear q13
         try clear q695
         obtain ⟨x21_2, rfl, HA, HK2, BK696, HB⟩ := hrel
         cases gk with
         | zero => exact absurd HA.out (by simp [spec_ciConfig.l1])
         | succ k2 =>
          have H := HA.out
          clear HA
          simp only [spec_ciConfig.l1] at H
          by_cases c14 : x21_2 < (y697.length : Int)
          ·
           rw [if_pos c14] at H
           have c14b0 : decide (x21_2 < (y697.length : Int)) = true := decide_eq_true c14
           clear c14
           by_cases c15 : 0 ≤ x21_2
           ·
            rw [if_pos c15] at H
            have c15b0 : decide (0 ≤ x21_2) = true := decide_eq_true c15
            clear c15
            by_cases c16 : x21_2 < (y697.length : Int)
            ·
             rw [if_pos c16] at H
             have c16b0 : decide (x21_2 < (y697.length : Int)) = true := decide_eq_true c16
             clear c16
             replace H := Option.bind_eq_some_iff.mp H
             obtain ⟨t703, A170, H⟩ := H
             replace H : (if t703 = (-2) then (spec_ciConfig.l1 k2 l0 l0 (l0.length : Int) x12_1 y697 (y697.length : Int) (wrap64 (x21_2 + 1)) ((rd_T38 l0 x12_1).f0) ((rd_T38 l0 x12_1).f1) ((rd_T38 l0 x12_1).f2) ((rd_T38 l0 x12_1).f3)) else (some false)) = some r := H
             have A17 := Aside0.mk A170
             clear A170
             by_cases c18 : t703 = (-2)
             ·
              rw [if_pos c18] at H
              have c18b0 : (t703 == (-2)) = true := beq_iff_eq.mpr c18
              have c18b1 : (t703 != (-2)) = false := bne_eq_false_iff_eq.mpr c18
              clear c18
              have H' := Aside0.mk H
              clear H
              have p701 : 0 ≤ (x21_2 : Int) := of_decide_eq_true (by first | (with_reducible assumption) | assumption)
              have q701 : x21_2 < (y697.length : Int) := of_decide_eq_true (by first | (with_reducible assumption) | assumption)
              obtain ⟨ad701, e701, hx701_0, hx701_1, hx701_2, hx701_3⟩ := at_T38 HR700.out x21_2 p701 q701
              obtain rfl : ad695 = ad701 := (by injection e701)
              replace hx701_0 := (HB.out.cell (World.block_lt_of_cell? w _ hx701_0)).trans hx701_0
              replace hx701_1 := (HB.out.cell (World.block_lt_of_cell? w _ hx701_1)).trans hx701_1
              replace hx701_2 := (HB.out.cell (World.block_lt_of_cell? w _ hx701_2)).trans hx701_2
              replace hx701_3 := (HB.out.cell (World.block_lt_of_cell? w _ hx701_3)).trans hx701_3
              replace p701 := eq_true p701
              replace q701 := eq_true q701
              go_wp2_with (first | ((with_reducible refine gate_dst (N := 6) rfl ?_); refine box_event ?hg (N := 6) ?hd (cs := #[.int .i64 0, .int .i64 0, .int .i64 0, .int .i64 0]) (t := 38) ?hr ?_; (case hd => rfl); (case hg => rfl); (case hr => first | (go_simp; done) | (go_simp; rfl)); intro gb702 hg w19 hbox hb; have n0_ := Aside0.mk (blk_below (g := gb696) (o := .cells #[.int .i64 ((rd_T38 l0 x12_1).f0), .int .i64 ((rd_T38 l0 x12_1).f1), .int .i64 ((rd_T38 l0 x12_1).f2), .int .i64 ((rd_T38 l0 x12_1).f3)] 38 (0, 0)) (by (with_reducible repeat (first | refine blk_drewN ?_ _ | refine blk_drew ?_ | refine blk_alloc ?_ _)); exact BK696.out) hb); have n1_ := Aside0.mk (below_step (by repeat (first | (with_reducible first | exact HB.out | apply below_alloc | apply pw_below_drewN | apply below_drew1 | refine below_set ?_ GE696.out) | exact HB.out)) hb); have n2_ := Aside0.mk (hbox); have n3_ := Aside0.mk ((by rw [hg]; exact (below_size (by repeat (first | (with_reducible first | exact HB.out | apply below_alloc | apply pw_below_drewN | apply below_drew1 | refine below_set ?_ GE696.out) | exact HB.out))) : w.heap.size ≤ gb702)); have n4_ := Aside0.mk ((by rw [hg]; exact (below_size (by repeat (first | (with_reducible first | exact HB.out | apply below_alloc | apply pw_below_drewN | apply below_drew1 | refine below_set ?_ GE696.out) | exact HB.out))) : w.heap.size ≤ gb702)); have n5_ := Aside0.mk ((by rw [hg]; exact Nat.ne_of_lt (blk_lt (g := gb696) (o := .cells #[.int .i64 ((rd_T38 l0 x12_1).f0), .int .i64 ((rd_T38 l0 x12_1).f1), .int .i64 ((rd_T38 l0 x12_1).f2), .int .i64 ((rd_T38 l0 x12_1).f3)] 38 (0, 0)) (by (with_reducible repeat (first | refine blk_drewN ?_ _ | refine blk_drew ?_ | refine blk_alloc ?_ _)); exact BK696.out)) : gb696 ≠ gb702)); have n6_ := Aside0.mk ((by rw [hg]; exact Nat.ne_of_gt (blk_lt (g := gb696) (o := .cells #[.int .i64 ((rd_T38 l0 x12_1).f0), .int .i64 ((rd_T38 l0 x12_1).f1), .int .i64 ((rd_T38 l0 x12_1).f2), .int .i64 ((rd_T38 l0 x12_1).f3)] 38 (0, 0)) (by (with_reducible repeat (first | refine blk_drewN ?_ _ | refine blk_drew ?_ | refine blk_alloc ?_ _)); exact BK696.out)) : gb702 ≠ gb696)); clear BK696; clear HB; have BK696 := n0_; have HB := n1_; have BK702 := n2_; have GW702 := n3_; have GE702 := n4_; have NB696_702 := n5_; have NB702_696 := n6_; clear n0_ n1_ n2_ n3_ n4_ n5_ n6_; clear hb hbox hg; have hnb20 := NB702_696.out; have hnc20 := NB696_702.out; have hcz21_0 : w19.cell? ⟨gb702, 0, none⟩ = some (.int .i64 0) := (blk_cell BK702.out 0).trans rfl; have hcz21_1 : w19.cell? ⟨gb702, 1, none⟩ = some (.int .i64 0) := (blk_cell BK702.out 1).trans rfl; have hcz21_2 : w19.cell? ⟨gb702, 2, none⟩ = some (.int .i64 0) := (blk_cell BK702.out 2).trans rfl; have hcz21_3 : w19.cell? ⟨gb702, 3, none⟩ = some (.int .i64 0) := (blk_cell BK702.out 3).trans rfl; have hfz21_0 := blk_frozen BK702.out 0; have hfz21_1 := blk_frozen BK702.out 1; have hfz21_2 := blk_frozen BK702.out 2; have hfz21_3 := blk_frozen BK702.out 3; have hcz22_0 : w19.cell? ⟨gb696, 0, none⟩ = some (.int .i64 ((rd_T38 l0 x12_1).f0)) := (blk_cell BK696.out 0).trans rfl; have hcz22_1 : w19.cell? ⟨gb696, 1, none⟩ = some (.int .i64 ((rd_T38 l0 x12_1).f1)) := (blk_cell BK696.out 1).trans rfl; have hcz22_2 : w19.cell? ⟨gb696, 2, none⟩ = some (.int .i64 ((rd_T38 l0 x12_1).f2)) := (blk_cell BK696.out 2).trans rfl; have hcz22_3 : w19.cell? ⟨gb696, 3, none⟩ = some (.int .i64 ((rd_T38 l0 x12_1).f3)) := (blk_cell BK696.out 3).trans rfl; have hfz22_0 := blk_frozen BK696.out 0; have hfz22_1 := blk_frozen BK696.out 1; have hfz22_2 := blk_frozen BK696.out 2; have hfz22_3 := blk_frozen BK696.out 3) | ((with_reducible refine gate_callee (f := 68) rfl ?_); refine goesL_ (some 27) rfl rfl Try.func68 (by kernel_rfl) rfl #[.agg #[.int .i64 ((rd_T38 l0 x12_1).f0), .int .i64 ((rd_T38 l0 x12_1).f1), .int .i64 ((rd_T38 l0 x12_1).f2), .int .i64 ((rd_T38 l0 x12_1).f3)], .agg #[.int .i64 ((rd_T38 y697 x21_2).f0), .int .i64 ((rd_T38 y697 x21_2).f1), .int .i64 ((rd_T38 y697 x21_2).f2), .int .i64 ((rd_T38 y697 x21_2).f3)]] rfl (by (try simp only [List.map_toArray, List.map_cons, List.map_nil]); first | done | rfl | (simp only [List.length_drop, List.length_take]; rfl)) ?_; (with_reducible refine (spec_ciTwice.calls ((rd_T38 l0 x12_1).f0) ((rd_T38 l0 x12_1).f1) ((rd_T38 l0 x12_1).f2) ((rd_T38 l0 x12_1).f3) ((rd_T38 y697 x21_2).f0) ((rd_T38 y697 x21_2).f1) ((rd_T38 y697 x21_2).f2) ((rd_T38 y697 x21_2).f3) t703 _ A17.out).mono ?_); rintro e w23 ⟨rfl, hb⟩; refine ⟨_, rfl, ?_⟩; have n0_ := Aside0.mk (blk_below (g := gb696) (o := .cells #[.int .i64 ((rd_T38 l0 x12_1).f0), .int .i64 ((rd_T38 l0 x12_1).f1), .int .i64 ((rd_T38 l0 x12_1).f2), .int .i64 ((rd_T38 l0 x12_1).f3)] 38 (0, 0)) (by (with_reducible repeat (first | refine blk_drewN ?_ _ | refine blk_drew ?_ | refine blk_alloc ?_ _)); refine blk_far ?_ NB696_702.out _; (with_reducible repeat (first | refine blk_drewN ?_ _ | refine blk_drew ?_ | refine blk_alloc ?_ _)); refine blk_far ?_ NB696_702.out _; (with_reducible repeat (first | refine blk_drewN ?_ _ | refine blk_drew ?_ | refine blk_alloc ?_ _)); refine blk_far ?_ NB696_702.out _; (with_reducible repeat (first | refine blk_drewN ?_ _ | refine blk_drew ?_ | refine blk_alloc ?_ _)); refine blk_far ?_ NB696_702.out _; (with_reducible repeat (first | refine blk_drewN ?_ _ | refine blk_drew ?_ | refine blk_alloc ?_ _)); exact BK696.out) hb); have n1_ := Aside0.mk (blk_below (g := gb702) (o := .cells #[.int .i64 ((rd_T38 y697 x21_2).f0), .int .i64 ((rd_T38 y697 x21_2).f1), .int .i64 ((rd_T38 y697 x21_2).f2), .int .i64 ((rd_T38 y697 x21_2).f3)] 38 (0, 0)) (by (with_reducible repeat (first | refine blk_drewN ?_ _ | refine blk_drew ?_ | refine blk_alloc ?_ _)); refine blk_put (cs := #[.int .i64 ((rd_T38 y697 x21_2).f0), .int .i64 ((rd_T38 y697 x21_2).f1), .int .i64 ((rd_T38 y697 x21_2).f2), .int .i64 0]) ?_ 3 _ rfl; (with_reducible repeat (first | refine blk_drewN ?_ _ | refine blk_drew ?_ | refine blk_alloc ?_ _)); refine blk_put (cs := #[.int .i64 ((rd_T38 y697 x21_2).f0), .int .i64 ((rd_T38 y697 x21_2).f1), .int .i64 0, .int .i64 0]) ?_ 2 _ rfl; (with_reducible repeat (first | refine blk_drewN ?_ _ | refine blk_drew ?_ | refine blk_alloc ?_ _)); refine blk_put (cs := #[.int .i64 ((rd_T38 y697 x21_2).f0), .int .i64 0, .int .i64 0, .int .i64 0]) ?_ 1 _ rfl; (with_reducible repeat (first | refine blk_drewN ?_ _ | refine blk_drew ?_ | refine blk_alloc ?_ _)); refine blk_put (cs := #[.int .i64 0, .int .i64 0, .int .i64 0, .int .i64 0]) ?_ 0 _ rfl; (with_reducible repeat (first | refine blk_drewN ?_ _ | refine blk_drew ?_ | refine blk_alloc ?_ _)); exact BK702.out) hb); have n2_ := Aside0.mk (below_step (by repeat (first | (with_reducible first | exact HB.out | apply below_alloc | apply pw_below_drewN | apply below_drew1 | refine below_set ?_ GE696.out | refine below_set ?_ GE702.out) | exact HB.out)) hb); clear BK696; clear BK702; clear HB; have BK696 := n0_; have BK702 := n1_; have HB := n2_; clear n0_ n1_ n2_; (try clear hb); (try clear hb2); (try clear hk); (try clear hi)))
              go_roundg k2
              case measure => have := HK1.out; have := HK2.out; omega
              case rel => exact ⟨(wrap64 (x21_2 + 1)), (by first | rfl | (simp; done) | (simp [*]; done)), H', ⟨by have := HK1.out; have := HK2.out; omega⟩, ⟨by (with_reducible repeat (first | refine blk_drewN ?_ _ | refine blk_drew ?_ | refine blk_alloc ?_ _)); exact BK696.out⟩, ⟨by repeat (first | (with_reducible first | exact HB.out | apply below_alloc | apply pw_below_drewN | apply below_drew1 | refine below_set ?_ GE696.out | refine below_set ?_ GE702.out) | exact HB.out)⟩⟩
             ·
              rw [if_neg c18] at H
              have c18b0 : (t703 == (-2)) = false := beq_eq_false_iff_ne.mpr c18
              have c18b1 : (t703 != (-2)) = true := bne_iff_ne.mpr c18
              obtain rfl := Option.some.inj H
              have p701 : 0 ≤ (x21_2 : Int) := of_decide_eq_true (by first | (with_reducible assumption) | assumption)
              have q701 : x21_2 < (y697.length : Int) := of_decide_eq_true (by first | (with_reducible assumption) | assumption)
              obtain ⟨ad701, e701, hx701_0, hx701_1, hx701_2, hx701_3⟩ := at_T38 HR700.out x21_2 p701 q701
              obtain rfl : ad695 = ad701 := (by injection e701)
              replace hx701_0 := (HB.out.cell (World.block_lt_of_cell? w _ hx701_0)).trans hx701_0
              replace hx701_1 := (HB.out.cell (World.block_lt_of_cell? w _ hx701_1)).trans hx701_1
              replace hx701_2 := (HB.out.cell (World.block_lt_of_cell? w _ hx701_2)).trans hx701_2
              replace hx701_3 := (HB.out.cell (World.block_lt_of_cell? w _ hx701_3)).trans hx701_3
              replace p701 := eq_true p701
              replace q701 := eq_true q701
              go_wp2_with (first | ((with_reducible refine gate_dst (N := 6) rfl ?_); refine box_event ?hg (N := 6) ?hd (cs := #[.int .i64 0, .int .i64 0, .int .i64 0, .int .i64 0]) (t := 38) ?hr ?_; (case hd => rfl); (case hg => rfl); (case hr => first | (go_simp; done) | (go_simp; rfl)); intro gb702 hg w24 hbox hb; have n0_ := Aside0.mk (blk_below (g := gb696) (o := .cells #[.int .i64 ((rd_T38 l0 x12_1).f0), .int .i64 ((rd_T38 l0 x12_1).f1), .int .i64 ((rd_T38 l0 x12_1).f2), .int .i64 ((rd_T38 l0 x12_1).f3)] 38 (0, 0)) (by (with_reducible repeat (first | refine blk_drewN ?_ _ | refine blk_drew ?_ | refine blk_alloc ?_ _)); exact BK696.out) hb); have n1_ := Aside0.mk (below_step (by repeat (first | (with_reducible first | exact HB.out | apply below_alloc | apply pw_below_drewN | apply below_drew1 | refine below_set ?_ GE696.out) | exact HB.out)) hb); have n2_ := Aside0.mk (hbox); have n3_ := Aside0.mk ((by rw [hg]; exact (below_size (by repeat (first | (with_reducible first | exact HB.out | apply below_alloc | apply pw_below_drewN | apply below_drew1 | refine below_set ?_ GE696.out) | exact HB.out))) : w.heap.size ≤ gb702)); have n4_ := Aside0.mk ((by rw [hg]; exact (below_size (by repeat (first | (with_reducible first | exact HB.out | apply below_alloc | apply pw_below_drewN | apply below_drew1 | refine below_set ?_ GE696.out) | exact HB.out))) : w.heap.size ≤ gb702)); have n5_ := Aside0.mk ((by rw [hg]; exact Nat.ne_of_lt (blk_lt (g := gb696) (o := .cells #[.int .i64 ((rd_T38 l0 x12_1).f0), .int .i64 ((rd_T38 l0 x12_1).f1), .int .i64 ((rd_T38 l0 x12_1).f2), .int .i64 ((rd_T38 l0 x12_1).f3)] 38 (0, 0)) (by (with_reducible repeat (first | refine blk_drewN ?_ _ | refine blk_drew ?_ | refine blk_alloc ?_ _)); exact BK696.out)) : gb696 ≠ gb702)); have n6_ := Aside0.mk ((by rw [hg]; exact Nat.ne_of_gt (blk_lt (g := gb696) (o := .cells #[.int .i64 ((rd_T38 l0 x12_1).f0), .int .i64 ((rd_T38 l0 x12_1).f1), .int .i64 ((rd_T38 l0 x12_1).f2), .int .i64 ((rd_T38 l0 x12_1).f3)] 38 (0, 0)) (by (with_reducible repeat (first | refine blk_drewN ?_ _ | refine blk_drew ?_ | refine blk_alloc ?_ _)); exact BK696.out)) : gb702 ≠ gb696)); clear BK696; clear HB; have BK696 := n0_; have HB := n1_; have BK702 := n2_; have GW702 := n3_; have GE702 := n4_; have NB696_702 := n5_; have NB702_696 := n6_; clear n0_ n1_ n2_ n3_ n4_ n5_ n6_; clear hb hbox hg; have hnb25 := NB702_696.out; have hnc25 := NB696_702.out; have hcz26_0 : w24.cell? ⟨gb702, 0, none⟩ = some (.int .i64 0) := (blk_cell BK702.out 0).trans rfl; have hcz26_1 : w24.cell? ⟨gb702, 1, none⟩ = some (.int .i64 0) := (blk_cell BK702.out 1).trans rfl; have hcz26_2 : w24.cell? ⟨gb702, 2, none⟩ = some (.int .i64 0) := (blk_cell BK702.out 2).trans rfl; have hcz26_3 : w24.cell? ⟨gb702, 3, none⟩ = some (.int .i64 0) := (blk_cell BK702.out 3).trans rfl; have hfz26_0 := blk_frozen BK702.out 0; have hfz26_1 := blk_frozen BK702.out 1; have hfz26_2 := blk_frozen BK702.out 2; have hfz26_3 := blk_frozen BK702.out 3; have hcz27_0 : w24.cell? ⟨gb696, 0, none⟩ = some (.int .i64 ((rd_T38 l0 x12_1).f0)) := (blk_cell BK696.out 0).trans rfl; have hcz27_1 : w24.cell? ⟨gb696, 1, none⟩ = some (.int .i64 ((rd_T38 l0 x12_1).f1)) := (blk_cell BK696.out 1).trans rfl; have hcz27_2 : w24.cell? ⟨gb696, 2, none⟩ = some (.int .i64 ((rd_T38 l0 x12_1).f2)) := (blk_cell BK696.out 2).trans rfl; have hcz27_3 : w24.cell? ⟨gb696, 3, none⟩ = some (.int .i64 ((rd_T38 l0 x12_1).f3)) := (blk_cell BK696.out 3).trans rfl; have hfz27_0 := blk_frozen BK696.out 0; have hfz27_1 := blk_frozen BK696.out 1; have hfz27_2 := blk_frozen BK696.out 2; have hfz27_3 := blk_frozen BK696.out 3) | ((with_reducible refine gate_callee (f := 68) rfl ?_); refine goesL_ (some 27) rfl rfl Try.func68 (by kernel_rfl) rfl #[.agg #[.int .i64 ((rd_T38 l0 x12_1).f0), .int .i64 ((rd_T38 l0 x12_1).f1), .int .i64 ((rd_T38 l0 x12_1).f2), .int .i64 ((rd_T38 l0 x12_1).f3)], .agg #[.int .i64 ((rd_T38 y697 x21_2).f0), .int .i64 ((rd_T38 y697 x21_2).f1), .int .i64 ((rd_T38 y697 x21_2).f2), .int .i64 ((rd_T38 y697 x21_2).f3)]] rfl (by (try simp only [List.map_toArray, List.map_cons, List.map_nil]); first | done | rfl | (simp only [List.length_drop, List.length_take]; rfl)) ?_; (with_reducible refine (spec_ciTwice.calls ((rd_T38 l0 x12_1).f0) ((rd_T38 l0 x12_1).f1) ((rd_T38 l0 x12_1).f2) ((rd_T38 l0 x12_1).f3) ((rd_T38 y697 x21_2).f0) ((rd_T38 y697 x21_2).f1) ((rd_T38 y697 x21_2).f2) ((rd_T38 y697 x21_2).f3) t703 _ A17.out).mono ?_); rintro e w28 ⟨rfl, hb⟩; refine ⟨_, rfl, ?_⟩; have n0_ := Aside0.mk (blk_below (g := gb696) (o := .cells #[.int .i64 ((rd_T38 l0 x12_1).f0), .int .i64 ((rd_T38 l0 x12_1).f1), .int .i64 ((rd_T38 l0 x12_1).f2), .int .i64 ((rd_T38 l0 x12_1).f3)] 38 (0, 0)) (by (with_reducible repeat (first | refine blk_drewN ?_ _ | refine blk_drew ?_ | refine blk_alloc ?_ _)); refine blk_far ?_ NB696_702.out _; (with_reducible repeat (first | refine blk_drewN ?_ _ | refine blk_drew ?_ | refine blk_alloc ?_ _)); refine blk_far ?_ NB696_702.out _; (with_reducible repeat (first | refine blk_drewN ?_ _ | refine blk_drew ?_ | refine blk_alloc ?_ _)); refine blk_far ?_ NB696_702.out _; (with_reducible repeat (first | refine blk_drewN ?_ _ | refine blk_drew ?_ | refine blk_alloc ?_ _)); refine blk_far ?_ NB696_702.out _; (with_reducible repeat (first | refine blk_drewN ?_ _ | refine blk_drew ?_ | refine blk_alloc ?_ _)); exact BK696.out) hb); have n1_ := Aside0.mk (blk_below (g := gb702) (o := .cells #[.int .i64 ((rd_T38 y697 x21_2).f0), .int .i64 ((rd_T38 y697 x21_2).f1), .int .i64 ((rd_T38 y697 x21_2).f2), .int .i64 ((rd_T38 y697 x21_2).f3)] 38 (0, 0)) (by (with_reducible repeat (first | refine blk_drewN ?_ _ | refine blk_drew ?_ | refine blk_alloc ?_ _)); refine blk_put (cs := #[.int .i64 ((rd_T38 y697 x21_2).f0), .int .i64 ((rd_T38 y697 x21_2).f1), .int .i64 ((rd_T38 y697 x21_2).f2), .int .i64 0]) ?_ 3 _ rfl; (with_reducible repeat (first | refine blk_drewN ?_ _ | refine blk_drew ?_ | refine blk_alloc ?_ _)); refine blk_put (cs := #[.int .i64 ((rd_T38 y697 x21_2).f0), .int .i64 ((rd_T38 y697 x21_2).f1), .int .i64 0, .int .i64 0]) ?_ 2 _ rfl; (with_reducible repeat (first | refine blk_drewN ?_ _ | refine blk_drew ?_ | refine blk_alloc ?_ _)); refine blk_put (cs := #[.int .i64 ((rd_T38 y697 x21_2).f0), .int .i64 0, .int .i64 0, .int .i64 0]) ?_ 1 _ rfl; (with_reducible repeat (first | refine blk_drewN ?_ _ | refine blk_drew ?_ | refine blk_alloc ?_ _)); refine blk_put (cs := #[.int .i64 0, .int .i64 0, .int .i64 0, .int .i64 0]) ?_ 0 _ rfl; (with_reducible repeat (first | refine blk_drewN ?_ _ | refine blk_drew ?_ | refine blk_alloc ?_ _)); exact BK702.out) hb); have n2_ := Aside0.mk (below_step (by repeat (first | (with_reducible first | exact HB.out | apply below_alloc | apply pw_below_drewN | apply below_drew1 | refine below_set ?_ GE696.out | refine below_set ?_ GE702.out) | exact HB.out)) hb); clear BK696; clear BK702; clear HB; have BK696 := n0_; have BK702 := n1_; have HB := n2_; clear n0_ n1_ n2_; (try clear hb); (try clear hb2); (try clear hk); (try clear hi)))
              go_ret
              exact ⟨by first | rfl | (simp [errW_none, errW_some] <;> rfl) | (simp [*, errW_none, errW_some] <;> rfl), by repeat (first | (with_reducible first | exact HB.out | apply below_alloc | apply pw_below_drewN | apply below_drew1 | refine below_set ?_ GE696.out | refine below_set ?_ GE702.out) | exact HB.out)⟩
            ·
             rw [if_neg c16] at H
             exact absurd H (by simp)
           ·
            rw [if_neg c15] at H
            exact absurd H (by simp)
          ·
           rw [if_neg c14] at H
           have c14b0 : decide (x21_2 < (y697.length : Int)) = false := decide_eq_false c14
           clear c14
           have H' := Aside0.mk H
           clear H
           go_wp2
           go_roundg k2
           case measure => have := HK1.out; have := HK2.out; omega
           case rel => exact ⟨(wrap64 (x12_1 + 1)), (by first | rfl | (simp; done) | (simp [*]; done)), H', ⟨by have := HK1.out; have := HK2.out; omega⟩, ⟨by repeat (first | (with_reducible first | exact HB.out | apply below_alloc | apply pw_below_drewN | apply below_drew1 | refine below_set ?_ GE696.out) | exact HB.out)⟩⟩
       ·
        rw [if_neg c9] at H
        exact absurd H (by simp)
      ·
       rw [if_neg c7] at H
       exact absurd H (by simp)
     ·
      rw [if_neg c6] at H
      exact absurd H (by simp)
    ·
     rw [if_neg c5] at H
     have c5b0 : decide (x12_1 < (l0.length : Int)) = false := decide_eq_false c5
     clear c5
     obtain rfl := Option.some.inj H
     go_wp2
     go_ret
     exact ⟨by first | rfl | (simp [errW_none, errW_some] <;> rfl) | (simp [*, errW_none, errW_some] <;> rfl), by repeat (first | (with_reducible first | exact HB.out | apply below_alloc | apply pw_below_drewN | apply below_drew1) | exact HB.out)⟩
 ·
  replace c3 := Bool.eq_false_iff.mpr c3
  subst c3
  have H1 : (some false) = some r := by rw [if_neg (show ¬ (false = true) by decide)] at H; exact H
  clear H
  have H := H1
  clear H1
  obtain rfl := Option.some.inj H
  go_enter Try.func75, Try.ntmps75
  go_wp2_with (first | ((with_reducible refine gate_callee (f := 79) rfl ?_); refine goesL_ (some 8) rfl rfl Try.func79 (by kernel_rfl) rfl #[.slice A0 l0.length c0] rfl (by (try simp only [List.map_toArray, List.map_cons, List.map_nil]); first | done | rfl | (simp only [List.length_drop, List.length_take]; rfl)) ?_; (with_reducible refine (spec_ciFour.calls k _ _ l0 false _ ?side1 ?side2 A2.out).mono ?_); (case side1 => repeat (first | exact HR0.out | (with_reducible refine Kd.C_alloc ?_ _) | (with_reducible refine Kd.C_drewN ?_ _) | (with_reducible refine Kd.C_drew ?_))); (case side2 => exact HC0.out); rintro e w29 ⟨rfl, hb⟩; refine ⟨_, rfl, ?_⟩; have n0_ := Aside0.mk (below_step (by repeat (first | (with_reducible first | exact HB.out | apply below_alloc | apply pw_below_drewN | apply below_drew1) | exact HB.out)) hb); clear HB; have HB := n0_; clear n0_; (try clear hb); (try clear hb2); (try clear hk); (try clear hi)))
  go_ret
  exact ⟨by first | rfl | (simp [errW_none, errW_some] <;> rfl) | (simp [*, errW_none, errW_some] <;> rfl), by repeat (first | (with_reducible first | exact HB.out | apply below_alloc | apply pw_below_drewN | apply below_drew1) | exact HB.out)⟩

end Go.Proofs.Ytmnjijobpejpgaa.P
