/- Written by a program of this session: for Go functions that a statement reaches, Lean functions with the same answers and the proofs that the calls come to them; conditions: none but the arguments' kinds. -/
import Derived.Test.YtkllcinoodfffaaP0
namespace Go.Proofs.Ytkllcinoodfffaa.P
open Go.RowKit Go.Proofs.YtkllcinoodfffaaW.PrintWords Go.Proofs.YtkllcinoodfffaaW.PrintLast Go.Proofs.YtkllcinoodfffaaW.PrintMore
attribute [local go_sem] max2_int min2_int max_two min_two max_three min_three max_four min_four   -- for this text's walks alone
set_option linter.unusedVariables false
set_option linter.unusedSimpArgs false

/-! ### spec_ciSwap: function 36 -/
def spec_ciSwap.l0 : Nat → List (S25) → Int → List (S25) → List (S25) → Int → Int → Int → Int → Int → Int → Option ((List (S25)))
  | 0, _, _, _, _, _, _, _, _, _, _ => none
  | k + 1, x0, x1, x5, x14, x15, x16, x148000, x148001, x148002, x148003 => if x16 < x15 then (if 0 ≤ x16 then (if x16 < (x14.length : Int) then (if x16 = x1 then (spec_ciSwap.l0 k x0 x1 x5 x14 x15 (wrap64 (x16 + 1)) x148000 x148001 x148002 x148003) else (spec_ciSwap.l0 k x0 x1 x5 x14 x15 (wrap64 (x16 + 1)) (wrap64 (x148000 + ((rd_T25 x14 x16).f0))) (wrap64 (x148001 + ((rd_T25 x14 x16).f1))) (wrap64 (x148002 + ((rd_T25 x14 x16).f2))) (wrap64 (x148003 + ((rd_T25 x14 x16).f3))))) else (none)) else (none)) else (if 0 ≤ x1 then (if x1 < (x0.length : Int) then (if x1 < (x5.length : Int) then (some (x5.set (x1 : Int).toNat (⟨wrap64 ((wrap64 (2 * x148000)) - ((rd_T25 x0 x1).f0)), wrap64 ((wrap64 (2 * x148001)) - ((rd_T25 x0 x1).f1)), wrap64 ((wrap64 (2 * x148002)) - ((rd_T25 x0 x1).f2)), wrap64 ((wrap64 (2 * x148003)) - ((rd_T25 x0 x1).f3))⟩ : S25))) else (none)) else (none)) else (none))
def spec_ciSwap.f (k : Nat) (l0 : List (S25)) (a1 : Int) : Option ((List (S25))) := (some (([] : List (S25)) : List (S25))).bind fun y141 => (if y141.length + l0.length < 4398046511104 then (spec_ciSwap.l0 k l0 a1 (y141 ++ l0) l0 (l0.length : Int) 0 0 0 0 0) else (none))
theorem spec_ciSwap.mono_l : ∀ k, (∀ y0 y1 y2 y3 y4 y5 y6 y7 y8 y9, LeO (spec_ciSwap.l0 k y0 y1 y2 y3 y4 y5 y6 y7 y8 y9) (spec_ciSwap.l0 (k + 1) y0 y1 y2 y3 y4 y5 y6 y7 y8 y9))
  | 0 => fun _ _ _ _ _ _ _ _ _ _ r h => by simp [spec_ciSwap.l0] at h
  | k + 1 => by
    have ih0 := spec_ciSwap.mono_l k
    · intro y0 y1 y2 y3 y4 y5 y6 y7 y8 y9
      unfold spec_ciSwap.l0
      repeat' first
      | (with_reducible exact ih0 _ _ _ _ _ _ _ _ _ _)
      | (with_reducible exact LeO.refl _)
      | (with_reducible exact LeO.none _)
      | (with_reducible refine LeO.ite ?_ ?_)
      | (with_reducible refine LeO.bind ?_ (fun _ => ?_))
      | exact ih0 _ _ _ _ _ _ _ _ _ _
      | exact LeO.none _
      | refine LeO.ite ?_ ?_
      | refine LeO.bind ?_ (fun _ => ?_)
theorem spec_ciSwap.mono : ∀ a0 a1 k, LeO (spec_ciSwap.f k a0 a1) (spec_ciSwap.f (k + 1) a0 a1) := by
  intro a0 a1 k
  have ih0 := spec_ciSwap.mono_l k
  unfold spec_ciSwap.f
  repeat' first
      | (with_reducible exact ih0 _ _ _ _ _ _ _ _ _ _)
      | (with_reducible exact LeO.refl _)
      | (with_reducible exact LeO.none _)
      | (with_reducible refine LeO.ite ?_ ?_)
      | (with_reducible refine LeO.bind ?_ (fun _ => ?_))
      | exact ih0 _ _ _ _ _ _ _ _ _ _
      | exact LeO.none _
      | refine LeO.ite ?_ ?_
      | refine LeO.bind ?_ (fun _ => ?_)
set_option maxHeartbeats 8000000 in
set_option maxRecDepth 100000 in
theorem spec_ciSwap.calls (k : Nat) (A0 : Option Addr) (c0 : Nat) (l0 : List (S25)) (a1 : Int) (r : List (S25)) (w : World) (hr0 : Kd.C k25 w A0 l0.length l0) (hc0 : l0.length ≤ c0) (h : spec_ciSwap.f k l0 a1 = some r) :
  Calls Try.prog 36 #[.slice A0 l0.length c0, .int .i64 a1] w fun e w' => ∃ v0_ : Value, e = .returned (v0_) ∧ Kd.R k25 25 w' w.heap.size (fun _ => True) v0_ r ∧ Below w.heap.size w w' := by
 have hu25 := Try.underlying25
 have HR0 := Aside0.mk hr0
 have HC0 := Aside0.mk hc0
 clear hr0 hc0
 have HB := Aside0.mk (Below.refl w.heap.size w)
 have H : ((some (([] : List (S25)) : List (S25))).bind fun y141 => (if y141.length + l0.length < 4398046511104 then (spec_ciSwap.l0 k l0 a1 (y141 ++ l0) l0 (l0.length : Int) 0 0 0 0 0) else (none))) = some r := h
 clear h
 obtain ⟨y141, hy141⟩ : ∃ y_ : List (S25), y_ = (([] : List (S25))) := ⟨_, rfl⟩
 replace H : (if y141.length + l0.length < 4398046511104 then (spec_ciSwap.l0 k l0 a1 (y141 ++ l0) l0 (l0.length : Int) 0 0 0 0 0) else (none)) = some r := by first | (rw [hy141]; with_reducible exact H) | (have H2_ := (Option.bind_some _ _).symm.trans H; rw [hy141]; with_reducible exact H2_) | (have H2_ := (Option.bind_some _ _).symm.trans H; with_reducible exact H2_) | with_reducible exact H | (rw [hy141]; exact H) | exact H
 have Ny141 := Aside0.mk hy141
 clear hy141
 by_cases c3 : y141.length + l0.length < 4398046511104
 ·
  rw [if_pos c3] at H
  have LMc3 := Aside0.mk c3
  clear c3
  obtain ⟨y144, hy144⟩ : ∃ y_ : List (S25), y_ = (y141 ++ l0) := ⟨_, rfl⟩
  replace H : (spec_ciSwap.l0 k l0 a1 y144 l0 (l0.length : Int) 0 0 0 0 0) = some r := by first | (rw [hy144]; with_reducible exact H) | (have H2_ := (Option.bind_some _ _).symm.trans H; rw [hy144]; with_reducible exact H2_) | (have H2_ := (Option.bind_some _ _).symm.trans H; with_reducible exact H2_) | with_reducible exact H | (rw [hy144]; exact H) | exact H
  have Ny144 := Aside0.mk hy144
  clear hy144
  have H' := Aside0.mk H
  clear H
  go_enter Try.func36, Try.ntmps36
  go_wp2_with (first | ((with_reducible refine gate_dst (N := 10) rfl ?_); refine Kd.R_lit k25 _ 25 ?hg (N := 10) ?hd (xs := ([] : List (S25))) (inner := []) (ok := fun _ => True) (okp := fun _ => True) ?hr ?hp (fun _ hk => hk) trivial (Below.refl _ _) (Nat.le_refl _) (by simp) ?_; (case hd => rfl); (case hg => rfl); (case hr => first | (go_simp; done) | (go_simp; rfl)); (case hp => exact (Reps.none _ _)); intro v142 w4 ho5 hb hg_ hnew_; clear hg_ hnew_; (first | rw [← Ny141.out] at ho5 | (simp only [Int.reduceToNat] at ho5; rw [← Ny141.out] at ho5)); have HO143 := Aside0.mk (Kd.R_lower ho5 (below_size Z111)); replace HB := Aside0.mk (below_step Z111 hb); clear hb ho5) | ((with_reducible refine gate_builtin (b := .append) (xs := #[.tmp 10, .tmp 11]) rfl ?_); at_builtin; refine Kd.R_append_rows k25 (w0 := w) w.heap.size rfl (.tmp 10) (.tmp 11) 43 25 (.agg #[(.int .i64 0), (.int .i64 0), (.int .i64 0), (.int .i64 0)]) 32 rfl Try.underlying43 info25 rfl (by decide) (by omega) v142 y141 l0 _ _ _ (fun _ => True) (fun _ => False) rfl rfl ?aO ?aR (fun _ _ h => h) (fun _ h => h.elim) ?aF ?aB ?aS ?aL ?_; (case aR => repeat (first | exact (Kd.C_below HR0.out HB.out) | (with_reducible refine Kd.C_alloc ?_ _) | (with_reducible refine Kd.C_drewN ?_ _) | (with_reducible refine Kd.C_drew ?_))); (case aB => exact Z111); (case aF => exact (fun _ _ => trivial)); (case aO => exact (by (with_reducible repeat (first | apply Kd.R_alloc | apply Kd.R_drewN | apply Kd.R_drew)); exact HO143.out)); (case aS => exact (below_size Z111)); (case aL => have := LMc3.out; omega); intro v145 w6 ho hb hg hat; rw [← Ny144.out] at ho; replace HB := Aside0.mk hb; have HO146 := Aside0.mk ho; clear HO143; clear ho hb hg hat) | ((with_reducible refine gate_dst (N := 6) rfl ?_); refine boxN_ 6 #[.int .i64 0, .int .i64 0, .int .i64 0, .int .i64 0] 25 ?_; intro gb147 hg w7 hbox hb; replace HO146 := Aside0.mk (Kd.R_below (Kd.R_elderB (by (with_reducible repeat (first | apply Kd.R_alloc | apply Kd.R_drewN | apply Kd.R_drew)); exact HO146.out) gb147 (Nat.le_of_eq hg.symm)) hb); have BK147 := Aside0.mk hbox; have GW147 := gw_ (w := w) Z111 hg; have GE147 := gw_ (w := w) Z111 hg; replace HB := Aside0.mk (below_step Z111 hb); clear hb hbox hg; obtain ⟨_, _, _, _, _, _, _, _⟩ := cz4_ BK147))
  go_loopg [16] k (fun kq v16 w' => ∃ (x16_1 : Int) (x148000_1 : Int) (x148001_1 : Int) (x148002_1 : Int) (x148003_1 : Int), v16 = .int .i64 x16_1 ∧ Aside0 (spec_ciSwap.l0 kq l0 a1 y144 l0 (l0.length : Int) x16_1 x148000_1 x148001_1 x148002_1 x148003_1 = some r) ∧ Aside0 (kq ≤ k) ∧ Aside0 (Kd.R k25 25 w' w.heap.size (fun k_ => k_ ≠ gb147) v145 y144) ∧ Aside0 (w'.heap[gb147]? = some (.cells #[.int .i64 x148000_1, .int .i64 x148001_1, .int .i64 x148002_1, .int .i64 x148003_1] 25 (0, 0))) ∧ Aside0 (Below w.heap.size w w'))
  case atStart => exact ⟨(0), (0), (0), (0), (0), Z91, H', ⟨Nat.le_refl _⟩, ⟨(by (with_reducible repeat (first | apply Kd.R_alloc | apply Kd.R_drewN | apply Kd.R_drew)); exact Kd.R_mono (Kd.R_far (p := ⟨gb147, 3, none⟩) (Kd.R_far (p := ⟨gb147, 2, none⟩) (Kd.R_far (p := ⟨gb147, 1, none⟩) (Kd.R_far (p := ⟨gb147, 0, none⟩) (Kd.R_mono HO146.out (fun k_ hk => (⟨hk, hk.2⟩ : _ ∧ k_ ≠ gb147))) (fun _ hk => hk.2) (.int .i64 0)) (fun _ hk => hk.2) (.int .i64 0)) (fun _ hk => hk.2) (.int .i64 0)) (fun _ hk => hk.2) (.int .i64 0)) (fun _ hk => hk.1.2))⟩, ⟨(by (with_reducible repeat (first | refine blk_drewN ?_ _ | refine blk_drew ?_ | refine blk_alloc ?_ _)); refine blk_put (cs := #[.int .i64 0, .int .i64 0, .int .i64 0, .int .i64 0]) ?_ 3 _ rfl; (with_reducible repeat (first | refine blk_drewN ?_ _ | refine blk_drew ?_ | refine blk_alloc ?_ _)); refine blk_put (cs := #[.int .i64 0, .int .i64 0, .int .i64 0, .int .i64 0]) ?_ 2 _ rfl; (with_reducible repeat (first | refine blk_drewN ?_ _ | refine blk_drew ?_ | refine blk_alloc ?_ _)); refine blk_put (cs := #[.int .i64 0, .int .i64 0, .int .i64 0, .int .i64 0]) ?_ 1 _ rfl; (with_reducible repeat (first | refine blk_drewN ?_ _ | refine blk_drew ?_ | refine blk_alloc ?_ _)); refine blk_put (cs := #[.int .i64 0, .int .i64 0, .int .i64 0, .int .i64 0]) ?_ 0 _ rfl; (with_reducible repeat (first | refine blk_drewN ?_ _ | refine blk_drew ?_ | refine blk_alloc ?_ _)); exact BK147.out)⟩, ⟨Z79⟩⟩
  case round =>
   clear H'
   try clear p2
   try clear c3
   try clear hcz8_0
   try clear hcz8_1
   try clear hcz8_2
   try clear hcz8_3
   try clear hfz8_0
   try clear hfz8_1
   try clear hfz8_2
   try clear hfz8_3
   obtain ⟨x16_1, x148000_1, x148001_1, x148002_1, x148003_1, rfl, HA, HK1, HO_5, BK147, HB⟩ := hrel
   cases gk with
   | zero => exact absurd HA.out (by simp [spec_ciSwap.l0])
   | succ k1 =>
    have H := HA.out
    clear HA
    simp only [spec_ciSwap.l0] at H
    by_cases c9 : x16_1 < (l0.length : Int)
    ·
     rw [if_pos c9] at H
     have c9b0 : decide (x16_1 < (l0.length : Int)) = true := decide_eq_true c9
     clear c9
     by_cases c10 : 0 ≤ x16_1
     ·
      rw [if_pos c10] at H
      have c10b0 : decide (0 ≤ x16_1) = true := decide_eq_true c10
      clear c10
      by_cases c11 : x16_1 < (l0.length : Int)
      ·
       rw [if_pos c11] at H
       have c11b0 : decide (x16_1 < (l0.length : Int)) = true := decide_eq_true c11
       clear c11
       by_cases c12 : x16_1 = a1
       ·
        rw [if_pos c12] at H
        have c12b0 : (x16_1 == a1) = true := beq_iff_eq.mpr c12
        have c12b1 : (x16_1 != a1) = false := bne_eq_false_iff_eq.mpr c12
        clear c12
        have H' := Aside0.mk H
        clear H
        have p148 : 0 ≤ (x16_1 : Int) := of_decide_eq_true Z90
        have q148 : x16_1 < (l0.length : Int) := of_decide_eq_true Z90
        obtain ⟨ad148, e148, hx148_0, hx148_1, hx148_2, hx148_3⟩ := at_T25 HR0.out x16_1 p148 q148
        cases e148
        replace hx148_0 := (HB.out.cell (World.block_lt_of_cell? w _ hx148_0)).trans hx148_0
        replace hx148_1 := (HB.out.cell (World.block_lt_of_cell? w _ hx148_1)).trans hx148_1
        replace hx148_2 := (HB.out.cell (World.block_lt_of_cell? w _ hx148_2)).trans hx148_2
        replace hx148_3 := (HB.out.cell (World.block_lt_of_cell? w _ hx148_3)).trans hx148_3
        replace p148 := eq_true p148
        replace q148 := eq_true q148
        go_wp2_with (first | ((with_reducible refine gate_dst (N := 8) rfl ?_); refine boxN_ 8 #[.int .i64 0, .int .i64 0, .int .i64 0, .int .i64 0] 25 ?_; intro gb149 hg w13 hbox hb; replace HO_5 := Aside0.mk (Kd.R_below (Kd.R_elderB Z32 gb149 (Nat.le_of_eq hg.symm)) hb); have BK149 := Aside0.mk hbox; have GW149 := gw_ (w := w) Z79 hg; have GE149 := gw_ (w := w) Z79 hg; replace HB := Aside0.mk (below_step Z79 hb); have NB147_149 := nl_ BK147 hg; have NB149_147 := ng_ BK147 hg; replace BK147 := bk_ BK147 hb; clear hb hbox hg; have hnb14 := NB149_147.out; have hnc14 := NB147_149.out; obtain ⟨_, _, _, _, _, _, _, _⟩ := cz4_ BK149))
        go_roundg k1
        case measure => have := HK1.out; omega
        case rel => exact ⟨(wrap64 (x16_1 + 1)), (x148000_1), (x148001_1), (x148002_1), (x148003_1), Z91, H', ⟨(by have := HK1.out; omega)⟩, ⟨(by (with_reducible repeat (first | apply Kd.R_alloc | apply Kd.R_drewN | apply Kd.R_drew)); exact Kd.R_mono (Kd.R_far (p := ⟨gb149, 3, none⟩) (Kd.R_far (p := ⟨gb149, 2, none⟩) (Kd.R_far (p := ⟨gb149, 1, none⟩) (Kd.R_far (p := ⟨gb149, 0, none⟩) (Kd.R_mono HO_5.out (fun k_ hk => (⟨hk, hk.2⟩ : _ ∧ k_ ≠ gb149))) (fun _ hk => hk.2) (.int .i64 ((rd_T25 l0 x16_1).f0))) (fun _ hk => hk.2) (.int .i64 ((rd_T25 l0 x16_1).f1))) (fun _ hk => hk.2) (.int .i64 ((rd_T25 l0 x16_1).f2))) (fun _ hk => hk.2) (.int .i64 ((rd_T25 l0 x16_1).f3))) (fun _ hk => hk.1.1))⟩, ⟨(by (with_reducible repeat (first | refine blk_drewN ?_ _ | refine blk_drew ?_ | refine blk_alloc ?_ _)); refine blk_far ?_ NB147_149.out _; (with_reducible repeat (first | refine blk_drewN ?_ _ | refine blk_drew ?_ | refine blk_alloc ?_ _)); refine blk_far ?_ NB147_149.out _; (with_reducible repeat (first | refine blk_drewN ?_ _ | refine blk_drew ?_ | refine blk_alloc ?_ _)); refine blk_far ?_ NB147_149.out _; (with_reducible repeat (first | refine blk_drewN ?_ _ | refine blk_drew ?_ | refine blk_alloc ?_ _)); refine blk_far ?_ NB147_149.out _; (with_reducible repeat (first | refine blk_drewN ?_ _ | refine blk_drew ?_ | refine blk_alloc ?_ _)); exact BK147.out)⟩, ⟨(by repeat (first | (with_reducible first | exact HB.out | apply below_alloc | apply pw_below_drewN | apply below_drew1 | refine below_set ?_ GE147.out | refine below_set ?_ GE149.out) | exact HB.out))⟩⟩
       ·
        rw [if_neg c12] at H
        have c12b0 : (x16_1 == a1) = false := beq_eq_false_iff_ne.mpr c12
        have c12b1 : (x16_1 != a1) = true := bne_iff_ne.mpr c12
        have H' := Aside0.mk H
        clear H
        have p148 : 0 ≤ (x16_1 : Int) := of_decide_eq_true Z90
        have q148 : x16_1 < (l0.length : Int) := of_decide_eq_true Z90
        obtain ⟨ad148, e148, hx148_0, hx148_1, hx148_2, hx148_3⟩ := at_T25 HR0.out x16_1 p148 q148
        cases e148
        replace hx148_0 := (HB.out.cell (World.block_lt_of_cell? w _ hx148_0)).trans hx148_0
        replace hx148_1 := (HB.out.cell (World.block_lt_of_cell? w _ hx148_1)).trans hx148_1
        replace hx148_2 := (HB.out.cell (World.block_lt_of_cell? w _ hx148_2)).trans hx148_2
        replace hx148_3 := (HB.out.cell (World.block_lt_of_cell? w _ hx148_3)).trans hx148_3
        replace p148 := eq_true p148
        replace q148 := eq_true q148
        go_wp2_with (first | ((with_reducible refine gate_dst (N := 8) rfl ?_); refine boxN_ 8 #[.int .i64 0, .int .i64 0, .int .i64 0, .int .i64 0] 25 ?_; intro gb149 hg w16 hbox hb; replace HO_5 := Aside0.mk (Kd.R_below (Kd.R_elderB Z32 gb149 (Nat.le_of_eq hg.symm)) hb); have BK149 := Aside0.mk hbox; have GW149 := gw_ (w := w) Z79 hg; have GE149 := gw_ (w := w) Z79 hg; replace HB := Aside0.mk (below_step Z79 hb); have NB147_149 := nl_ BK147 hg; have NB149_147 := ng_ BK147 hg; replace BK147 := bk_ BK147 hb; clear hb hbox hg; have hnb17 := NB149_147.out; have hnc17 := NB147_149.out; obtain ⟨_, _, _, _, _, _, _, _⟩ := cz4_ BK149; obtain ⟨_, _, _, _, _, _, _, _⟩ := cz4_ BK147))
        go_roundg k1
        case measure => have := HK1.out; omega
        case rel => exact ⟨(wrap64 (x16_1 + 1)), (wrap64 (x148000_1 + ((rd_T25 l0 x16_1).f0))), (wrap64 (x148001_1 + ((rd_T25 l0 x16_1).f1))), (wrap64 (x148002_1 + ((rd_T25 l0 x16_1).f2))), (wrap64 (x148003_1 + ((rd_T25 l0 x16_1).f3))), Z91, H', ⟨(by have := HK1.out; omega)⟩, ⟨(by (with_reducible repeat (first | apply Kd.R_alloc | apply Kd.R_drewN | apply Kd.R_drew)); exact Kd.R_mono (Kd.R_far (p := ⟨gb147, 3, none⟩) (Kd.R_far (p := ⟨gb147, 2, none⟩) (Kd.R_far (p := ⟨gb147, 1, none⟩) (Kd.R_far (p := ⟨gb147, 0, none⟩) (Kd.R_far (p := ⟨gb149, 3, none⟩) (Kd.R_far (p := ⟨gb149, 2, none⟩) (Kd.R_far (p := ⟨gb149, 1, none⟩) (Kd.R_far (p := ⟨gb149, 0, none⟩) (Kd.R_mono (Kd.R_mono HO_5.out (fun k_ hk => (⟨hk, hk.2⟩ : _ ∧ k_ ≠ gb149))) (fun k_ hk => (⟨hk, hk.1.1⟩ : _ ∧ k_ ≠ gb147))) (fun _ hk => hk.1.2) (.int .i64 ((rd_T25 l0 x16_1).f0))) (fun _ hk => hk.1.2) (.int .i64 ((rd_T25 l0 x16_1).f1))) (fun _ hk => hk.1.2) (.int .i64 ((rd_T25 l0 x16_1).f2))) (fun _ hk => hk.1.2) (.int .i64 ((rd_T25 l0 x16_1).f3))) (fun _ hk => hk.2) (.int .i64 (wrap64 (x148000_1 + ((rd_T25 l0 x16_1).f0))))) (fun _ hk => hk.2) (.int .i64 (wrap64 (x148001_1 + ((rd_T25 l0 x16_1).f1))))) (fun _ hk => hk.2) (.int .i64 (wrap64 (x148002_1 + ((rd_T25 l0 x16_1).f2))))) (fun _ hk => hk.2) (.int .i64 (wrap64 (x148003_1 + ((rd_T25 l0 x16_1).f3))))) (fun _ hk => hk.1.1.1))⟩, ⟨(by (with_reducible repeat (first | refine blk_drewN ?_ _ | refine blk_drew ?_ | refine blk_alloc ?_ _)); refine blk_put (cs := #[.int .i64 (wrap64 (x148000_1 + ((rd_T25 l0 x16_1).f0))), .int .i64 (wrap64 (x148001_1 + ((rd_T25 l0 x16_1).f1))), .int .i64 (wrap64 (x148002_1 + ((rd_T25 l0 x16_1).f2))), .int .i64 x148003_1]) ?_ 3 _ rfl; (with_reducible repeat (first | refine blk_drewN ?_ _ | refine blk_drew ?_ | refine blk_alloc ?_ _)); refine blk_put (cs := #[.int .i64 (wrap64 (x148000_1 + ((rd_T25 l0 x16_1).f0))), .int .i64 (wrap64 (x148001_1 + ((rd_T25 l0 x16_1).f1))), .int .i64 x148002_1, .int .i64 x148003_1]) ?_ 2 _ rfl; (with_reducible repeat (first | refine blk_drewN ?_ _ | refine blk_drew ?_ | refine blk_alloc ?_ _)); refine blk_put (cs := #[.int .i64 (wrap64 (x148000_1 + ((rd_T25 l0 x16_1).f0))), .int .i64 x148001_1, .int .i64 x148002_1, .int .i64 x148003_1]) ?_ 1 _ rfl; (with_reducible repeat (first | refine blk_drewN ?_ _ | refine blk_drew ?_ | refine blk_alloc ?_ _)); refine blk_put (cs := #[.int .i64 x148000_1, .int .i64 x148001_1, .int .i64 x148002_1, .int .i64 x148003_1]) ?_ 0 _ rfl; (with_reducible repeat (first | refine blk_drewN ?_ _ | refine blk_drew ?_ | refine blk_alloc ?_ _)); refine blk_far ?_ NB147_149.out _; (with_reducible repeat (first | refine blk_drewN ?_ _ | refine blk_drew ?_ | refine blk_alloc ?_ _)); refine blk_far ?_ NB147_149.out _; (with_reducible repeat (first | refine blk_drewN ?_ _ | refine blk_drew ?_ | refine blk_alloc ?_ _)); refine blk_far ?_ NB147_149.out _; (with_reducible repeat (first | refine blk_drewN ?_ _ | refine blk_drew ?_ | refine blk_alloc ?_ _)); refine blk_far ?_ NB147_149.out _; (with_reducible repeat (first | refine blk_drewN ?_ _ | refine blk_drew ?_ | refine blk_alloc ?_ _)); exact BK147.out)⟩, ⟨(by repeat (first | (with_reducible first | exact HB.out | apply below_alloc | apply pw_below_drewN | apply below_drew1 | refine below_set ?_ GE147.out | refine below_set ?_ GE149.out) | exact HB.out))⟩⟩
      ·
       rw [if_neg c11] at H
       exact absurd H (by simp)
     ·
      rw [if_neg c10] at H
      exact absurd H (by simp)
    ·
     rw [if_neg c9] at H
     have c9b0 : decide (x16_1 < (l0.length : Int)) = false := decide_eq_false c9
     clear c9
     by_cases c20 : 0 ≤ a1
     ·
      rw [if_pos c20] at H
      have c20b0 : decide (0 ≤ a1) = true := decide_eq_true c20
      clear c20
      by_cases c21 : a1 < (l0.length : Int)
      ·
       rw [if_pos c21] at H
       have c21b0 : decide (a1 < (l0.length : Int)) = true := decide_eq_true c21
       clear c21
       by_cases c22 : a1 < (y144.length : Int)
       ·
        rw [if_pos c22] at H
        have c22b0 : decide (a1 < (y144.length : Int)) = true := decide_eq_true c22
        clear c22
        obtain ⟨y152, hy152⟩ : ∃ y_ : List (S25), y_ = (y144.set (a1 : Int).toNat (⟨wrap64 ((wrap64 (2 * x148000_1)) - ((rd_T25 l0 a1).f0)), wrap64 ((wrap64 (2 * x148001_1)) - ((rd_T25 l0 a1).f1)), wrap64 ((wrap64 (2 * x148002_1)) - ((rd_T25 l0 a1).f2)), wrap64 ((wrap64 (2 * x148003_1)) - ((rd_T25 l0 a1).f3))⟩ : S25)) := ⟨_, rfl⟩
        replace H : (some y152) = some r := by first | (rw [hy152]; with_reducible exact H) | (have H2_ := (Option.bind_some _ _).symm.trans H; rw [hy152]; with_reducible exact H2_) | (have H2_ := (Option.bind_some _ _).symm.trans H; with_reducible exact H2_) | with_reducible exact H | (rw [hy152]; exact H) | exact H
        have Ny152 := Aside0.mk hy152
        clear hy152
        obtain rfl := Option.some.inj H
        have p150 : 0 ≤ (a1 : Int) := of_decide_eq_true Z90
        have q150 : a1 < (l0.length : Int) := of_decide_eq_true Z90
        obtain ⟨ad150, e150, hx150_0, hx150_1, hx150_2, hx150_3⟩ := at_T25 HR0.out a1 p150 q150
        cases e150
        replace hx150_0 := (HB.out.cell (World.block_lt_of_cell? w _ hx150_0)).trans hx150_0
        replace hx150_1 := (HB.out.cell (World.block_lt_of_cell? w _ hx150_1)).trans hx150_1
        replace hx150_2 := (HB.out.cell (World.block_lt_of_cell? w _ hx150_2)).trans hx150_2
        replace hx150_3 := (HB.out.cell (World.block_lt_of_cell? w _ hx150_3)).trans hx150_3
        replace p150 := eq_true p150
        replace q150 := eq_true q150
        go_wp2_with (first | ((with_reducible refine gate_dst (N := 9) rfl ?_); refine boxN_ 9 #[.int .i64 0, .int .i64 0, .int .i64 0, .int .i64 0] 25 ?_; intro gb151 hg w24 hbox hb; replace HO_5 := Aside0.mk (Kd.R_below (Kd.R_elderB Z32 gb151 (Nat.le_of_eq hg.symm)) hb); have BK151 := Aside0.mk hbox; have GW151 := gw_ (w := w) Z79 hg; have GE151 := gw_ (w := w) Z79 hg; replace HB := Aside0.mk (below_step Z79 hb); have NB147_151 := nl_ BK147 hg; have NB151_147 := ng_ BK147 hg; replace BK147 := bk_ BK147 hb; clear hb hbox hg; have hnb25 := NB151_147.out; have hnc25 := NB147_151.out; obtain ⟨_, _, _, _, _, _, _, _⟩ := cz4_ BK151) | ((with_reducible refine gate_store (t := 25) (p := 9) rfl ?_); refine store_event (t := 25) (p := 9) (v := ?vo_w27) (w1 := ((((w24.setCell ⟨gb151, 0, none⟩ (.int .i64 ((rd_T25 l0 a1).f0))).setCell ⟨gb151, 1, none⟩ (.int .i64 ((rd_T25 l0 a1).f1))).setCell ⟨gb151, 2, none⟩ (.int .i64 ((rd_T25 l0 a1).f2))).setCell ⟨gb151, 3, none⟩ (.int .i64 ((rd_T25 l0 a1).f3)))) ?hg ?ho ?hn ?hr ?_; (case ho => rfl); (case hg => rfl); (case hn => rfl); (case hr => first | (go_simp; done) | (go_simp; rfl)); intro w27 hw; have n0_ : Aside0 (Kd.R k25 25 w27 w.heap.size (fun k_ => k_ ≠ gb147 ∧ k_ ≠ gb151) v145 y144) := ⟨(by rw [hw]; exact (by (with_reducible repeat (first | apply Kd.R_alloc | apply Kd.R_drewN | apply Kd.R_drew)); exact Kd.R_mono (Kd.R_far (p := ⟨gb151, 3, none⟩) (Kd.R_far (p := ⟨gb151, 2, none⟩) (Kd.R_far (p := ⟨gb151, 1, none⟩) (Kd.R_far (p := ⟨gb151, 0, none⟩) (Kd.R_mono HO_5.out (fun k_ hk => (⟨hk, hk.2⟩ : _ ∧ k_ ≠ gb151))) (fun _ hk => hk.2) (.int .i64 ((rd_T25 l0 a1).f0))) (fun _ hk => hk.2) (.int .i64 ((rd_T25 l0 a1).f1))) (fun _ hk => hk.2) (.int .i64 ((rd_T25 l0 a1).f2))) (fun _ hk => hk.2) (.int .i64 ((rd_T25 l0 a1).f3))) (fun _ hk => ⟨hk.1.1, hk.1.2⟩)))⟩; have n1_ : Aside0 (w27.heap[gb147]? = some (.cells #[.int .i64 x148000_1, .int .i64 x148001_1, .int .i64 x148002_1, .int .i64 x148003_1] 25 (0, 0))) := ⟨(by rw [hw]; exact (by (with_reducible repeat (first | refine blk_drewN ?_ _ | refine blk_drew ?_ | refine blk_alloc ?_ _)); refine blk_far ?_ NB147_151.out _; (with_reducible repeat (first | refine blk_drewN ?_ _ | refine blk_drew ?_ | refine blk_alloc ?_ _)); refine blk_far ?_ NB147_151.out _; (with_reducible repeat (first | refine blk_drewN ?_ _ | refine blk_drew ?_ | refine blk_alloc ?_ _)); refine blk_far ?_ NB147_151.out _; (with_reducible repeat (first | refine blk_drewN ?_ _ | refine blk_drew ?_ | refine blk_alloc ?_ _)); refine blk_far ?_ NB147_151.out _; (with_reducible repeat (first | refine blk_drewN ?_ _ | refine blk_drew ?_ | refine blk_alloc ?_ _)); exact BK147.out))⟩; have n2_ : Aside0 (w27.heap[gb151]? = some (.cells #[.int .i64 ((rd_T25 l0 a1).f0), .int .i64 ((rd_T25 l0 a1).f1), .int .i64 ((rd_T25 l0 a1).f2), .int .i64 ((rd_T25 l0 a1).f3)] 25 (0, 0))) := ⟨(by rw [hw]; exact (by (with_reducible repeat (first | refine blk_drewN ?_ _ | refine blk_drew ?_ | refine blk_alloc ?_ _)); refine blk_put (cs := #[.int .i64 ((rd_T25 l0 a1).f0), .int .i64 ((rd_T25 l0 a1).f1), .int .i64 ((rd_T25 l0 a1).f2), .int .i64 0]) ?_ 3 _ rfl; (with_reducible repeat (first | refine blk_drewN ?_ _ | refine blk_drew ?_ | refine blk_alloc ?_ _)); refine blk_put (cs := #[.int .i64 ((rd_T25 l0 a1).f0), .int .i64 ((rd_T25 l0 a1).f1), .int .i64 0, .int .i64 0]) ?_ 2 _ rfl; (with_reducible repeat (first | refine blk_drewN ?_ _ | refine blk_drew ?_ | refine blk_alloc ?_ _)); refine blk_put (cs := #[.int .i64 ((rd_T25 l0 a1).f0), .int .i64 0, .int .i64 0, .int .i64 0]) ?_ 1 _ rfl; (with_reducible repeat (first | refine blk_drewN ?_ _ | refine blk_drew ?_ | refine blk_alloc ?_ _)); refine blk_put (cs := #[.int .i64 0, .int .i64 0, .int .i64 0, .int .i64 0]) ?_ 0 _ rfl; (with_reducible repeat (first | refine blk_drewN ?_ _ | refine blk_drew ?_ | refine blk_alloc ?_ _)); exact BK151.out))⟩; have n3_ : Aside0 (Below w.heap.size w w27) := ⟨(by rw [hw]; exact (by repeat (first | (with_reducible first | exact HB.out | apply below_alloc | apply pw_below_drewN | apply below_drew1 | refine below_set ?_ GE147.out | refine below_set ?_ GE151.out) | exact HB.out)))⟩; clear hw; clear HO_5; clear BK147; clear BK151; clear HB; have HO_5 := n0_; have BK147 := n1_; have BK151 := n2_; have HB := n3_; clear n0_ n1_ n2_ n3_; obtain ⟨_, _, _, _, _, _, _, _⟩ := cz4_ BK147; obtain ⟨_, _, _, _, _, _, _, _⟩ := cz4_ BK151; have p23 : 0 ≤ (a1 : Int) := of_decide_eq_true Z90; have q23 : (a1 : Int) < ((y144.length : Int) : Int) := of_decide_eq_true Z90; obtain ⟨go23, co23, eo23, gb23, gl23, cl23, HG23⟩ := Kd.R_form HO_5.out (by omega); (first | cases eo23 | (injection eo23 with ea_ en_ ec_; (first | subst ea_ | (injection ea_ with ea_; subst ea_)); subst ec_; clear en_)); have GB23 := Aside0.mk gb23; have GG23 := Aside0.mk HG23; clear gb23 gl23 HG23; obtain ⟨ce23, hcl23, hM23, hcc23, hfr23⟩ := Kd.R_elem HO_5.out z25 (a1 : Int) p23 q23; obtain rfl := k25_openM hM23; have hx23_0 : w27.cell? ⟨go23, (a1 : Int).toNat * 4, none⟩ = some (.int .i64 ((rd_T25 y144 a1).f0)) := hcc23 0 _ rfl; have hx23_1 : w27.cell? ⟨go23, (a1 : Int).toNat * 4 + 1, none⟩ = some (.int .i64 ((rd_T25 y144 a1).f1)) := hcc23 1 _ rfl; have hx23_2 : w27.cell? ⟨go23, (a1 : Int).toNat * 4 + 2, none⟩ = some (.int .i64 ((rd_T25 y144 a1).f2)) := hcc23 2 _ rfl; have hx23_3 : w27.cell? ⟨go23, (a1 : Int).toNat * 4 + 3, none⟩ = some (.int .i64 ((rd_T25 y144 a1).f3)) := hcc23 3 _ rfl; have hf23_0 : w27.frozen? ⟨go23, (a1 : Int).toNat * 4, none⟩ = false := hfr23 0; have hf23_1 : w27.frozen? ⟨go23, (a1 : Int).toNat * 4 + 1, none⟩ = false := hfr23 1; have hf23_2 : w27.frozen? ⟨go23, (a1 : Int).toNat * 4 + 2, none⟩ = false := hfr23 2; have hf23_3 : w27.frozen? ⟨go23, (a1 : Int).toNat * 4 + 3, none⟩ = false := hfr23 3; (try clear hcl23); (try clear hcc23); (try clear hfr23); (try clear hM23); replace p23 := eq_true p23; replace q23 := eq_true q23; have HX30 := Aside0.mk (show Kd.R k25 25 w27 w.heap.size (fun k_ => k_ ≠ gb147 ∧ k_ ≠ gb151) (.slice (some ⟨go23, 0, none⟩) y144.length co23) y144 from Z32); obtain ⟨ce30, hcl30, hM30, hcc30, hfr30⟩ := Kd.R_elem HX30.out z25 (a1 : Int) (of_decide_eq_true Z90) (by have h_ : (a1 : Int) < ((y144.length : Int) : Int) := of_decide_eq_true Z90; first | exact h_ | (have e_ := (Kd.R_reads' HO_5.out).1; omega) | simpa using h_); obtain rfl := k25_openM hM30; have HP30 := Kd.R_seg HX30.out (a1 : Int) (of_decide_eq_true Z90) (by have h_ : (a1 : Int) < ((y144.length : Int) : Int) := of_decide_eq_true Z90; first | exact h_ | (have e_ := (Kd.R_reads' HO_5.out).1; omega) | simpa using h_) (seg := [.int .i64 (wrap64 ((wrap64 (2 * x148000_1)) - ((rd_T25 l0 a1).f0))), .int .i64 (wrap64 ((wrap64 (2 * x148001_1)) - ((rd_T25 l0 a1).f1))), .int .i64 (wrap64 ((wrap64 (2 * x148002_1)) - ((rd_T25 l0 a1).f2))), .int .i64 (wrap64 ((wrap64 (2 * x148003_1)) - ((rd_T25 l0 a1).f3)))]) (j := 0) hcl30 hcc30 (show 4 ≤ 4 from by decide) (x' := (⟨wrap64 ((wrap64 (2 * x148000_1)) - ((rd_T25 l0 a1).f0)), wrap64 ((wrap64 (2 * x148001_1)) - ((rd_T25 l0 a1).f1)), wrap64 ((wrap64 (2 * x148002_1)) - ((rd_T25 l0 a1).f2)), wrap64 ((wrap64 (2 * x148003_1)) - ((rd_T25 l0 a1).f3))⟩ : S25)) (k25_mkM _ _ _ (⟨wrap64 ((wrap64 (2 * x148000_1)) - ((rd_T25 l0 a1).f0)), wrap64 ((wrap64 (2 * x148001_1)) - ((rd_T25 l0 a1).f1)), wrap64 ((wrap64 (2 * x148002_1)) - ((rd_T25 l0 a1).f2)), wrap64 ((wrap64 (2 * x148003_1)) - ((rd_T25 l0 a1).f3))⟩ : S25) ) (fun _ hk => hk); have hx30_0 := hcc30 0 _ rfl; (try simp only [show (k25).sz = 4 from rfl, Nat.mul_one, Nat.add_zero] at hx30_0); have hf30_0 := hfr30 0; (try simp only [show (k25).sz = 4 from rfl, Nat.mul_one, Nat.add_zero] at hf30_0); have hx30_1 := hcc30 1 _ rfl; (try simp only [show (k25).sz = 4 from rfl, Nat.mul_one, Nat.add_zero] at hx30_1); have hf30_1 := hfr30 1; (try simp only [show (k25).sz = 4 from rfl, Nat.mul_one, Nat.add_zero] at hf30_1); have hx30_2 := hcc30 2 _ rfl; (try simp only [show (k25).sz = 4 from rfl, Nat.mul_one, Nat.add_zero] at hx30_2); have hf30_2 := hfr30 2; (try simp only [show (k25).sz = 4 from rfl, Nat.mul_one, Nat.add_zero] at hf30_2); have hx30_3 := hcc30 3 _ rfl; (try simp only [show (k25).sz = 4 from rfl, Nat.mul_one, Nat.add_zero] at hx30_3); have hf30_3 := hfr30 3; (try simp only [show (k25).sz = 4 from rfl, Nat.mul_one, Nat.add_zero] at hf30_3); (try clear hcl30); (try clear hcc30); (try clear hfr30); (try clear hM30)) | ((with_reducible refine gate_store (t := 25) (p := 80) rfl ?_); refine store_event (t := 25) (p := 80) (v := ?vo_w31) (w1 := ((((w27.setCell ⟨go23, (a1 : Int).toNat * 4, none⟩ (.int .i64 (wrap64 ((wrap64 (2 * x148000_1)) - ((rd_T25 l0 a1).f0))))).setCell ⟨go23, (a1 : Int).toNat * 4 + 1, none⟩ (.int .i64 (wrap64 ((wrap64 (2 * x148001_1)) - ((rd_T25 l0 a1).f1))))).setCell ⟨go23, (a1 : Int).toNat * 4 + 2, none⟩ (.int .i64 (wrap64 ((wrap64 (2 * x148002_1)) - ((rd_T25 l0 a1).f2))))).setCell ⟨go23, (a1 : Int).toNat * 4 + 3, none⟩ (.int .i64 (wrap64 ((wrap64 (2 * x148003_1)) - ((rd_T25 l0 a1).f3)))))) ?hg ?ho ?hn ?hr ?_; (case ho => rfl); (case hg => rfl); (case hn => rfl); (case hr => first | (go_simp; done) | (go_simp; rfl)); intro w31 hw; have hg : w27.grownBy w31 (some go23) := (by rw [hw]; exact HP30.2); have hp_ : Kd.R k25 25 w31 w.heap.size (fun k_ => k_ ≠ gb147 ∧ k_ ≠ gb151) (.slice (some ⟨go23, 0, none⟩) y144.length co23) y152 := (by rw [hw, Ny152.out]; exact HP30.1); clear HP30; replace BK147 := Aside0.mk (blk_grown (g := gb147) (o := .cells #[.int .i64 x148000_1, .int .i64 x148001_1, .int .i64 x148002_1, .int .i64 x148003_1] 25 (0, 0)) (by (with_reducible repeat (first | refine blk_drewN ?_ _ | refine blk_drew ?_ | refine blk_alloc ?_ _)); exact BK147.out) hg (Kd.R_away HO_5.out (fun _ hk => hk.1))); replace BK151 := Aside0.mk (blk_grown (g := gb151) (o := .cells #[.int .i64 ((rd_T25 l0 a1).f0), .int .i64 ((rd_T25 l0 a1).f1), .int .i64 ((rd_T25 l0 a1).f2), .int .i64 ((rd_T25 l0 a1).f3)] 25 (0, 0)) (by (with_reducible repeat (first | refine blk_drewN ?_ _ | refine blk_drew ?_ | refine blk_alloc ?_ _)); exact BK151.out) hg (Kd.R_away HO_5.out (fun _ hk => hk.2))); replace HO_5 := Aside0.mk hp_; replace HB := Aside0.mk ((by rw [hw]; exact below_set (below_set (below_set (below_set (HB.out) GB23.out) GB23.out) GB23.out) GB23.out : Below w.heap.size w w31)); clear hg hw hp_))
        go_ret
        exact ⟨_, Z106, (by (with_reducible repeat (first | apply Kd.R_alloc | apply Kd.R_drewN | apply Kd.R_drew)); exact Kd.R_mono HO_5.out (fun _ hk => trivial)), (by repeat (first | (with_reducible first | exact HB.out | apply below_alloc | apply pw_below_drewN | apply below_drew1 | refine below_set ?_ GE147.out | refine below_set ?_ GE151.out) | exact HB.out))⟩
       ·
        rw [if_neg c22] at H
        exact absurd H (by simp)
      ·
       rw [if_neg c21] at H
       exact absurd H (by simp)
     ·
      rw [if_neg c20] at H
      exact absurd H (by simp)
 ·
  rw [if_neg c3] at H
  exact absurd H (by simp)

end Go.Proofs.Ytkllcinoodfffaa.P
