/- Written by a program of this session: for Go functions that a statement reaches, Lean functions with the same answers and the proofs that the calls come to them; conditions: none but the arguments' kinds. -/
import Derived.Test.YtkllcinoodfffaaP0
import Derived.Test.YtkllcinoodfffaaP1
import Derived.Test.YtkllcinoodfffaaP2
import Derived.Test.YtkllcinoodfffaaP3
namespace Go.Proofs.Ytkllcinoodfffaa.P
open Go.RowKit Go.Proofs.YtkllcinoodfffaaW.PrintWords Go.Proofs.YtkllcinoodfffaaW.PrintLast Go.Proofs.YtkllcinoodfffaaW.PrintMore
attribute [local go_sem] max2_int min2_int max_two min_two max_three min_three max_four min_four   -- for this text's walks alone
set_option linter.unusedVariables false
set_option linter.unusedSimpArgs false

/-! ### spec_l1Cur_config: function 19 -/
mutual
def spec_l1Cur_config.l0 : Nat → List (S25) → Int → List Int → Int → Int → Option ((List (S25)) × Int × Int)
  | 0, _, _, _, _, _ => none
  | k + 1, x3, x5, x1000, x1001, x1002 => if x5 > 0 then ((spec_l1Cur_pick.f x1000 x1001 x1002 4).bind fun bt166 => ((spec_ciSwap.f k x3 bt166.1).bind fun t169 => (spec_l1Cur_config.l0 k t169 (wrap64 (x5 - 1)) x1000 bt166.2.1 bt166.2.2))) else ((spec_l1Cur_one.f x1000 x1001 x1002 3).bind fun bt172 => (if bt172.1 = true then ((spec_l1Cur_pick.f x1000 bt172.2.1 bt172.2.2 5).bind fun bt175 => ((spec_l1Cur_pick.f x1000 bt175.2.1 bt175.2.2 5).bind fun bt178 => (spec_l1Cur_config.l1 k ([] : List (S25)) (wrap64 (bt175.1 - 2)) (wrap64 (bt178.1 - 2)) x3 (x3.length : Int) 0 x1000 bt178.2.1 bt178.2.2))) else (spec_l1Cur_config.j2 k x3 x1000 bt172.2.1 bt172.2.2)))
def spec_l1Cur_config.j2 : Nat → List (S25) → List Int → Int → Int → Option ((List (S25)) × Int × Int)
  | 0, _, _, _, _ => none
  | k + 1, x3, x1000, x1001, x1002 => (spec_l1Cur_pick.f x1000 x1001 x1002 20).bind fun bt192 => (if bt192.1 = 0 then (if (x3.length : Int) > 0 then ((spec_l1Cur_pick.f x1000 bt192.2.1 bt192.2.2 (x3.length : Int)).bind fun bt195 => ((spec_l1Cur_pick.f x1000 bt195.2.1 bt195.2.2 3).bind fun bt198 => ((spec_l1Cur_pick.f x1000 bt198.2.1 bt198.2.2 3).bind fun bt201 => (if 0 ≤ bt195.1 then (if bt195.1 < (x3.length : Int) then (some ((x3.set (bt195.1 : Int).toNat (⟨bt198.1, wrap64 (bt201.1 - 1), 1, 0⟩ : S25)), bt201.2.1, bt201.2.2)) else (none)) else (none))))) else (some (x3, bt192.2.1, bt192.2.2))) else (if bt192.1 = 1 then (if x3.length < 4398046511104 then (some ((x3 ++ [(⟨0, 0, 0, 1⟩ : S25)]), bt192.2.1, bt192.2.2)) else (none)) else (if bt192.1 = 2 then (some (([] : List (S25)), bt192.2.1, bt192.2.2)) else (some (x3, bt192.2.1, bt192.2.2)))))
def spec_l1Cur_config.l1 : Nat → List (S25) → Int → Int → List (S25) → Int → Int → List Int → Int → Int → Option ((List (S25)) × Int × Int)
  | 0, _, _, _, _, _, _, _, _, _ => none
  | k + 1, x7, x8, x9, x40, x41, x42, x1000, x1001, x1002 => if x42 < x41 then (if 0 ≤ x42 then (if x42 < (x40.length : Int) then ((spec_ShiftCircle.f k ((rd_T25 x40 x42).f0) ((rd_T25 x40 x42).f1) ((rd_T25 x40 x42).f2) ((rd_T25 x40 x42).f3) x8 x9).bind fun bt183 => (if bt183.2.2.2.2 = true then (if x7.length < 4398046511104 then (spec_l1Cur_config.l1 k (x7 ++ [(⟨bt183.1, bt183.2.1, bt183.2.2.1, bt183.2.2.2.1⟩ : S25)]) x8 x9 x40 x41 (wrap64 (x42 + 1)) x1000 x1001 x1002) else (none)) else (spec_l1Cur_config.l1 k x7 x8 x9 x40 x41 (wrap64 (x42 + 1)) x1000 x1001 x1002))) else (none)) else (none)) else (spec_l1Cur_config.j2 k x7 x1000 x1001 x1002)
end
def spec_l1Cur_config.f (k : Nat) (s0_0 : List Int) (s0_1 : Int) (s0_2 : Int) : Option ((List (S25)) × Int × Int) := (spec_l1Cur_pick.f s0_0 s0_1 s0_2 2).bind fun bt153 => ((spec_StartConfig.f bt153.1).bind fun bt156 => ((spec_l1Cur_among.f s0_0 bt153.2.1 bt153.2.2 (([0, 0, 1, 2, 3, 5] : List Int))).bind fun bt163 => (spec_l1Cur_config.l0 k bt156.1 bt163.1 s0_0 bt163.2.1 bt163.2.2)))
theorem spec_l1Cur_config.mono_l : ∀ k, (∀ y0 y1 y2 y3 y4, LeO (spec_l1Cur_config.l0 k y0 y1 y2 y3 y4) (spec_l1Cur_config.l0 (k + 1) y0 y1 y2 y3 y4)) ∧ (∀ y0 y1 y2 y3, LeO (spec_l1Cur_config.j2 k y0 y1 y2 y3) (spec_l1Cur_config.j2 (k + 1) y0 y1 y2 y3)) ∧ (∀ y0 y1 y2 y3 y4 y5 y6 y7 y8, LeO (spec_l1Cur_config.l1 k y0 y1 y2 y3 y4 y5 y6 y7 y8) (spec_l1Cur_config.l1 (k + 1) y0 y1 y2 y3 y4 y5 y6 y7 y8))
  | 0 => ⟨fun _ _ _ _ _ r h => by simp [spec_l1Cur_config.l0] at h, fun _ _ _ _ r h => by simp [spec_l1Cur_config.j2] at h, fun _ _ _ _ _ _ _ _ _ r h => by simp [spec_l1Cur_config.l1] at h⟩
  | k + 1 => by
    obtain ⟨ih0, ih1, ih2⟩ := spec_l1Cur_config.mono_l k
    refine ⟨?_, ?_, ?_⟩
    · intro y0 y1 y2 y3 y4
      unfold spec_l1Cur_config.l0
      repeat' first
      | (with_reducible exact ih0 _ _ _ _ _)
      | (with_reducible exact ih1 _ _ _ _)
      | (with_reducible exact ih2 _ _ _ _ _ _ _ _ _)
      | (with_reducible exact spec_ShiftCircle.mono _ _ _ _ _ _ _)
      | (with_reducible exact spec_ciSwap.mono _ _ _)
      | (with_reducible exact LeO.refl _)
      | (with_reducible exact LeO.none _)
      | (with_reducible refine LeO.ite ?_ ?_)
      | (with_reducible refine LeO.bind ?_ (fun _ => ?_))
      | exact ih0 _ _ _ _ _
      | exact ih1 _ _ _ _
      | exact ih2 _ _ _ _ _ _ _ _ _
      | exact spec_ShiftCircle.mono _ _ _ _ _ _ _
      | exact spec_ciSwap.mono _ _ _
      | exact LeO.none _
      | refine LeO.ite ?_ ?_
      | refine LeO.bind ?_ (fun _ => ?_)
    · intro y0 y1 y2 y3
      unfold spec_l1Cur_config.j2
      repeat' first
      | (with_reducible exact ih0 _ _ _ _ _)
      | (with_reducible exact ih1 _ _ _ _)
      | (with_reducible exact ih2 _ _ _ _ _ _ _ _ _)
      | (with_reducible exact spec_ShiftCircle.mono _ _ _ _ _ _ _)
      | (with_reducible exact spec_ciSwap.mono _ _ _)
      | (with_reducible exact LeO.refl _)
      | (with_reducible exact LeO.none _)
      | (with_reducible refine LeO.ite ?_ ?_)
      | (with_reducible refine LeO.bind ?_ (fun _ => ?_))
      | exact ih0 _ _ _ _ _
      | exact ih1 _ _ _ _
      | exact ih2 _ _ _ _ _ _ _ _ _
      | exact spec_ShiftCircle.mono _ _ _ _ _ _ _
      | exact spec_ciSwap.mono _ _ _
      | exact LeO.none _
      | refine LeO.ite ?_ ?_
      | refine LeO.bind ?_ (fun _ => ?_)
    · intro y0 y1 y2 y3 y4 y5 y6 y7 y8
      unfold spec_l1Cur_config.l1
      repeat' first
      | (with_reducible exact ih0 _ _ _ _ _)
      | (with_reducible exact ih1 _ _ _ _)
      | (with_reducible exact ih2 _ _ _ _ _ _ _ _ _)
      | (with_reducible exact spec_ShiftCircle.mono _ _ _ _ _ _ _)
      | (with_reducible exact spec_ciSwap.mono _ _ _)
      | (with_reducible exact LeO.refl _)
      | (with_reducible exact LeO.none _)
      | (with_reducible refine LeO.ite ?_ ?_)
      | (with_reducible refine LeO.bind ?_ (fun _ => ?_))
      | exact ih0 _ _ _ _ _
      | exact ih1 _ _ _ _
      | exact ih2 _ _ _ _ _ _ _ _ _
      | exact spec_ShiftCircle.mono _ _ _ _ _ _ _
      | exact spec_ciSwap.mono _ _ _
      | exact LeO.none _
      | refine LeO.ite ?_ ?_
      | refine LeO.bind ?_ (fun _ => ?_)
theorem spec_l1Cur_config.mono : ∀ a0 a1 a2 k, LeO (spec_l1Cur_config.f k a0 a1 a2) (spec_l1Cur_config.f (k + 1) a0 a1 a2) := by
  intro a0 a1 a2 k
  obtain ⟨ih0, ih1, ih2⟩ := spec_l1Cur_config.mono_l k
  unfold spec_l1Cur_config.f
  repeat' first
      | (with_reducible exact ih0 _ _ _ _ _)
      | (with_reducible exact ih1 _ _ _ _)
      | (with_reducible exact ih2 _ _ _ _ _ _ _ _ _)
      | (with_reducible exact spec_ShiftCircle.mono _ _ _ _ _ _ _)
      | (with_reducible exact spec_ciSwap.mono _ _ _)
      | (with_reducible exact LeO.refl _)
      | (with_reducible exact LeO.none _)
      | (with_reducible refine LeO.ite ?_ ?_)
      | (with_reducible refine LeO.bind ?_ (fun _ => ?_))
      | exact ih0 _ _ _ _ _
      | exact ih1 _ _ _ _
      | exact ih2 _ _ _ _ _ _ _ _ _
      | exact spec_ShiftCircle.mono _ _ _ _ _ _ _
      | exact spec_ciSwap.mono _ _ _
      | exact LeO.none _
      | refine LeO.ite ?_ ?_
      | refine LeO.bind ?_ (fun _ => ?_)
set_option maxHeartbeats 8000000 in
set_option maxRecDepth 100000 in
theorem spec_l1Cur_config.calls (k : Nat) (g : Nat) (s0_0 : List Int) (s0_1 : Int) (s0_2 : Int) (r1 : List (S25)) (r2 : Int) (r3 : Int) (w0 w : World) (hI : IsS42 w0 w g s0_0 s0_1 s0_2) (hB : Below w0.heap.size w0 w) (h : spec_l1Cur_config.f k s0_0 s0_1 s0_2 = some (r1, r2, r3)) :
  Calls Try.prog 19 #[.pointer (some ⟨g, 0, none⟩)] w fun e w' => ∃ v0_ : Value, e = .returned (v0_) ∧ Kd.R k25 25 w' w.heap.size (fun _ => True) v0_ r1 ∧ IsS42 w0 w' g s0_0 r2 r3 ∧ Below w0.heap.size w0 w' ∧ KeepBut w w' g none := by
 have hu25 := Try.underlying25
 have HI0 := Aside0.mk hI
 have HK := Aside0.mk (KeepBut.refl w g none)
 have HL := Aside0.mk hB.size
 clear hI
 have HW0 := Aside0.mk hB.size
 have HB := Aside0.mk hB
 clear hB
 have H : ((spec_l1Cur_pick.f s0_0 s0_1 s0_2 2).bind fun bt153 => ((spec_StartConfig.f bt153.1).bind fun bt156 => ((spec_l1Cur_among.f s0_0 bt153.2.1 bt153.2.2 (([0, 0, 1, 2, 3, 5] : List Int))).bind fun bt163 => (spec_l1Cur_config.l0 k bt156.1 bt163.1 s0_0 bt163.2.1 bt163.2.2)))) = some (r1, r2, r3) := h
 clear h
 replace H := Option.bind_eq_some_iff.mp H
 obtain ⟨⟨t153, t154, t155⟩, A20, H⟩ := H
 replace H : ((spec_StartConfig.f t153).bind fun bt156 => ((spec_l1Cur_among.f s0_0 t154 t155 (([0, 0, 1, 2, 3, 5] : List Int))).bind fun bt163 => (spec_l1Cur_config.l0 k bt156.1 bt163.1 s0_0 bt163.2.1 bt163.2.2))) = some (r1, r2, r3) := H
 have A2 := Aside0.mk A20
 clear A20
 replace H := Option.bind_eq_some_iff.mp H
 obtain ⟨⟨t156, t157⟩, A30, H⟩ := H
 replace H : ((spec_l1Cur_among.f s0_0 t154 t155 (([0, 0, 1, 2, 3, 5] : List Int))).bind fun bt163 => (spec_l1Cur_config.l0 k t156 bt163.1 s0_0 bt163.2.1 bt163.2.2)) = some (r1, r2, r3) := H
 have A3 := Aside0.mk A30
 clear A30
 obtain ⟨y160, hy160⟩ : ∃ y_ : List Int, y_ = (([0, 0, 1, 2, 3, 5] : List Int)) := ⟨_, rfl⟩
 replace H : ((spec_l1Cur_among.f s0_0 t154 t155 y160).bind fun bt163 => (spec_l1Cur_config.l0 k t156 bt163.1 s0_0 bt163.2.1 bt163.2.2)) = some (r1, r2, r3) := by first | (rw [hy160]; with_reducible exact H) | (have H2_ := (Option.bind_some _ _).symm.trans H; rw [hy160]; with_reducible exact H2_) | (have H2_ := (Option.bind_some _ _).symm.trans H; with_reducible exact H2_) | with_reducible exact H | (rw [hy160]; exact H) | exact H
 have Ny160 := Aside0.mk hy160
 clear hy160
 replace H := Option.bind_eq_some_iff.mp H
 obtain ⟨⟨t163, t164, t165⟩, A40, H⟩ := H
 replace H : (spec_l1Cur_config.l0 k t156 t163 s0_0 t164 t165) = some (r1, r2, r3) := H
 have A4 := Aside0.mk A40
 clear A40
 have H' := Aside0.mk H
 clear H
 go_enter Try.func19, Try.ntmps19
 go_wp2_with (first | ((with_reducible refine gate_callee (f := 21) rfl ?_); refine goesN_ 21 (some 16) Try.func21 #[.pointer (some ⟨g, 0, none⟩), .int .i64 2] ?_; (with_reducible refine (spec_l1Cur_pick.calls g s0_0 s0_1 s0_2 2 t153 t154 t155 w0 _ ?side1 ?side2 A2.out).mono ?_); (case side1 => repeat (first | (with_reducible first | exact HI0.out | apply IsS42.alloc | apply IsS42.drewN | apply IsS42.drew | apply IsS42.set_1 | apply IsS42.set_2) | exact HI0.out)); (case side2 => repeat (first | (with_reducible first | exact HB.out | apply below_alloc | apply pw_below_drewN | apply below_drew1 | refine below_set ?_ (IsS42.ge HI0.out)) | exact HB.out)); rintro e w5 ⟨rfl, hi, hb, hk⟩; refine ⟨_, rfl, ?_⟩; replace HK := Aside0.mk (KeepBut.trans Z108 hk (.inl rfl)); replace HB := Aside0.mk hb; replace HI0 := Aside0.mk hi; clear hb hk hi) | ((with_reducible refine gate_callee (f := 35) rfl ?_); refine goesN_ 35 (some 17) Try.func35 #[.int .i64 t153] ?_; (with_reducible refine (spec_StartConfig.calls t153 t156 t157 _ A3.out).mono ?_); rintro e w6 ⟨v158, rfl, ho0, hb⟩; refine ⟨_, rfl, ?_⟩; have HO159 := Aside0.mk (Kd.R_lower ho0 (keep_size (w := w) (g := g) (row := none) Z108)); replace HK := Aside0.mk (KeepBut.trans Z108 (KeepBut.of_below hb g none) (.inl rfl)); replace HB := Aside0.mk (below_step Z104 hb); replace HI0 := Aside0.mk (IsS42.below Z103 hb); clear hb; (try clear ho0)) | ((with_reducible refine gate_dst (N := 21) rfl ?_); refine Kd.R_lit (Kd.int .i64) _ 3 ?hg (N := 21) ?hd (xs := ([0, 0, 1, 2, 3, 5] : List Int)) (inner := [.int .i64 0, .int .i64 0, .int .i64 1, .int .i64 2, .int .i64 3, .int .i64 5]) (ok := fun _ => True) (okp := fun _ => True) ?hr ?hp (fun _ hk => hk) trivial (Below.refl _ _) (Nat.le_refl _) (by simp) ?_; (case hd => rfl); (case hg => rfl); (case hr => first | (go_simp; done) | (go_simp; rfl)); (case hp => exact (Reps.one (show Kd.M (Kd.int .i64) _ _ _ 0 [.int .i64 0] from rfl) (Reps.one (show Kd.M (Kd.int .i64) _ _ _ 0 [.int .i64 0] from rfl) (Reps.one (show Kd.M (Kd.int .i64) _ _ _ 1 [.int .i64 1] from rfl) (Reps.one (show Kd.M (Kd.int .i64) _ _ _ 2 [.int .i64 2] from rfl) (Reps.one (show Kd.M (Kd.int .i64) _ _ _ 3 [.int .i64 3] from rfl) (Reps.one (show Kd.M (Kd.int .i64) _ _ _ 5 [.int .i64 5] from rfl) (Reps.none _ _)))))))); intro v161 w7 ho8 hb hg_ hnew_; clear hg_ hnew_; (first | rw [← Ny160.out] at ho8 | (simp only [Int.reduceToNat] at ho8; rw [← Ny160.out] at ho8)); replace HO159 := Aside0.mk (Kd.R_below Z1 hb); have HO162 := Aside0.mk (Kd.R_lower ho8 (keep_size (w := w) (g := g) (row := none) Z108)); replace HK := Aside0.mk (KeepBut.trans Z108 (KeepBut.of_below hb g none) (.inl rfl)); replace HB := Aside0.mk (below_step Z104 hb); replace HI0 := Aside0.mk (IsS42.below Z103 hb); clear hb ho8; obtain ⟨Ao9, co9, eo9⟩ := Kd.R_slice HO162.out; subst eo9) | ((with_reducible refine gate_callee (f := 27) rfl ?_); refine goesN_ 27 (some 22) Try.func27 #[.pointer (some ⟨g, 0, none⟩), .slice Ao9 y160.length co9] ?_; (with_reducible refine (spec_l1Cur_among.calls g s0_0 t154 t155 _ _ y160 t163 t164 t165 w0 _ ?side1 ?side2 ?side3 ?side4 ?side5 A4.out).mono ?_); (case side1 => repeat (first | (with_reducible first | exact HI0.out | apply IsS42.alloc | apply IsS42.drewN | apply IsS42.drew | apply IsS42.set_1 | apply IsS42.set_2) | exact HI0.out)); (case side2 => repeat (first | (with_reducible first | exact HB.out | apply below_alloc | apply pw_below_drewN | apply below_drew1 | refine below_set ?_ (IsS42.ge HI0.out)) | exact HB.out)); (case side3 => repeat (first | exact (Kd.R_reads' HO162.out).2.2 | (with_reducible refine Kd.C_alloc ?_ _) | (with_reducible refine Kd.C_drewN ?_ _) | (with_reducible refine Kd.C_drew ?_))); (case side4 => exact (Kd.R_reads' HO162.out).2.1); (case side5 => exact far_slice (IsS42.own_ne HI0.out HO162.out (by decide))); rintro e w10 ⟨rfl, hi, hb, hk⟩; refine ⟨_, rfl, ?_⟩; replace HO159 := Aside0.mk (Kd.R_mono (Kd.R_keep (IsS42.apart (show IsS42 w0 _ g s0_0 t154 t155 from by repeat (first | (with_reducible first | exact HI0.out | apply IsS42.alloc | apply IsS42.drewN | apply IsS42.drew | apply IsS42.set_1 | apply IsS42.set_2) | exact HI0.out)) Z1 (by decide)) hk (fun _ h => h.2)) (fun _ h => h.1)); replace HO162 := Aside0.mk (Kd.R_mono (Kd.R_keep (IsS42.apart (show IsS42 w0 _ g s0_0 t154 t155 from by repeat (first | (with_reducible first | exact HI0.out | apply IsS42.alloc | apply IsS42.drewN | apply IsS42.drew | apply IsS42.set_1 | apply IsS42.set_2) | exact HI0.out)) (by (with_reducible repeat (first | apply Kd.R_alloc | apply Kd.R_drewN | apply Kd.R_drew)); exact HO162.out) (by decide)) hk (fun _ h => h.2)) (fun _ h => h.1)); replace HK := Aside0.mk (KeepBut.trans Z108 hk (.inl rfl)); replace HB := Aside0.mk hb; replace HI0 := Aside0.mk hi; clear hb hk hi))
 go_loopg [3, 5] k (fun kq v3 v5 w' => ∃ (x3_1 : List (S25)) (x5_1 : Int) (x1001_1 : Int) (x1002_1 : Int), v5 = .int .i64 x5_1 ∧ Aside0 (spec_l1Cur_config.l0 kq x3_1 x5_1 s0_0 x1001_1 x1002_1 = some (r1, r2, r3)) ∧ Aside0 (kq ≤ k) ∧ Aside0 (Kd.R k25 25 w' w.heap.size (fun _ => True) v3 x3_1) ∧ Aside0 (IsS42 w0 w' g s0_0 x1001_1 x1002_1) ∧ Aside0 (KeepBut w w' g none) ∧ Aside0 (Below w0.heap.size w0 w'))
 case atStart => exact ⟨(t156), (t163), (t164), (t165), Z91, H', ⟨Nat.le_refl _⟩, ⟨Z1⟩, ⟨Z103⟩, ⟨Z108⟩, ⟨Z104⟩⟩
 case round =>
  clear H'
  try clear c1
  try clear c2
  try clear p2
  try clear c3
  obtain ⟨x3_1, x5_1, x1001_1, x1002_1, rfl, HA, HK1, HO_3, HI0, HK, HB⟩ := hrel
  cases gk with
  | zero => exact absurd HA.out (by simp [spec_l1Cur_config.l0])
  | succ k1 =>
   have H := HA.out
   clear HA
   simp only [spec_l1Cur_config.l0] at H
   by_cases c11 : x5_1 > 0
   ·
    rw [if_pos c11] at H
    have c11b0 : decide (0 < x5_1) = true := decide_eq_true c11
    clear c11
    replace H := Option.bind_eq_some_iff.mp H
    obtain ⟨⟨t166, t167, t168⟩, A120, H⟩ := H
    replace H : ((spec_ciSwap.f k1 x3_1 t166).bind fun t169 => (spec_l1Cur_config.l0 k1 t169 (wrap64 (x5_1 - 1)) s0_0 t167 t168)) = some (r1, r2, r3) := H
    have A12 := Aside0.mk A120
    clear A120
    replace H := Option.bind_eq_some_iff.mp H
    obtain ⟨t169, A130, H⟩ := H
    replace H : (spec_l1Cur_config.l0 k1 t169 (wrap64 (x5_1 - 1)) s0_0 t167 t168) = some (r1, r2, r3) := H
    have A13 := Aside0.mk A130
    clear A130
    have H' := Aside0.mk H
    clear H
    go_wp2_with (first | ((with_reducible refine gate_callee (f := 21) rfl ?_); refine goesN_ 21 (some 29) Try.func21 #[.pointer (some ⟨g, 0, none⟩), .int .i64 4] ?_; (with_reducible refine (spec_l1Cur_pick.calls g s0_0 x1001_1 x1002_1 4 t166 t167 t168 w0 _ ?side1 ?side2 A12.out).mono ?_); (case side1 => repeat (first | (with_reducible first | exact HI0.out | apply IsS42.alloc | apply IsS42.drewN | apply IsS42.drew | apply IsS42.set_1 | apply IsS42.set_2) | exact HI0.out)); (case side2 => repeat (first | (with_reducible first | exact HB.out | apply below_alloc | apply pw_below_drewN | apply below_drew1 | refine below_set ?_ (IsS42.ge HI0.out)) | exact HB.out)); rintro e w14 ⟨rfl, hi, hb, hk⟩; refine ⟨_, rfl, ?_⟩; replace HO_3 := Aside0.mk (Kd.R_mono (Kd.R_keep (IsS42.apart (show IsS42 w0 _ g s0_0 x1001_1 x1002_1 from by repeat (first | (with_reducible first | exact HI0.out | apply IsS42.alloc | apply IsS42.drewN | apply IsS42.drew | apply IsS42.set_1 | apply IsS42.set_2) | exact HI0.out)) Z93 (by decide)) hk (fun _ h => h.2)) (fun _ h => h.1)); replace HK := Aside0.mk (KeepBut.trans Z108 hk (.inl rfl)); replace HB := Aside0.mk hb; replace HI0 := Aside0.mk hi; clear hb hk hi; obtain ⟨Ao15, co15, eo15⟩ := Kd.R_slice HO_3.out; subst eo15) | ((with_reducible refine gate_callee (f := 36) rfl ?_); refine goesN_ 36 (some 30) Try.func36 #[.slice Ao15 x3_1.length co15, .int .i64 t166] ?_; (with_reducible refine (spec_ciSwap.calls k1 _ _ x3_1 t166 t169 _ ?side1 ?side2 A13.out).mono ?_); (case side1 => repeat (first | exact (Kd.R_reads' HO_3.out).2.2 | (with_reducible refine Kd.C_alloc ?_ _) | (with_reducible refine Kd.C_drewN ?_ _) | (with_reducible refine Kd.C_drew ?_))); (case side2 => exact (Kd.R_reads' HO_3.out).2.1); rintro e w16 ⟨v170, rfl, ho0, hb⟩; refine ⟨_, rfl, ?_⟩; have HO171 := Aside0.mk (Kd.R_lower (Kd.R_new' ho0 (Kd.R_lt Z93)) (keep_size (w := w) (g := g) (row := none) Z108)); replace HO_3 := Aside0.mk (Kd.R_elder' Z93 (Kd.R_base ho0) hb); replace HK := Aside0.mk (KeepBut.trans Z108 (KeepBut.of_below hb g none) (.inl rfl)); replace HB := Aside0.mk (below_step Z104 hb); replace HI0 := Aside0.mk (IsS42.below Z103 hb); clear hb; (try clear ho0)))
    go_roundg k1
    case measure => have := HK1.out; omega
    case rel => exact ⟨(t169), (wrap64 (x5_1 - 1)), (t167), (t168), Z91, H', ⟨(by have := HK1.out; omega)⟩, ⟨(by (with_reducible repeat (first | apply Kd.R_alloc | apply Kd.R_drewN | apply Kd.R_drew)); exact Kd.R_mono HO171.out (fun _ hk => trivial))⟩, ⟨Z103⟩, ⟨Z108⟩, ⟨Z104⟩⟩
   ·
    rw [if_neg c11] at H
    have c11b0 : decide (0 < x5_1) = false := decide_eq_false c11
    clear c11
    replace H := Option.bind_eq_some_iff.mp H
    obtain ⟨⟨t172, t173, t174⟩, A170, H⟩ := H
    replace H : (if t172 = true then ((spec_l1Cur_pick.f s0_0 t173 t174 5).bind fun bt175 => ((spec_l1Cur_pick.f s0_0 bt175.2.1 bt175.2.2 5).bind fun bt178 => (spec_l1Cur_config.l1 k1 ([] : List (S25)) (wrap64 (bt175.1 - 2)) (wrap64 (bt178.1 - 2)) x3_1 (x3_1.length : Int) 0 s0_0 bt178.2.1 bt178.2.2))) else (spec_l1Cur_config.j2 k1 x3_1 s0_0 t173 t174)) = some (r1, r2, r3) := H
    have A17 := Aside0.mk A170
    clear A170
    have HC18 := Aside0.mk H
    clear H
    go_upto_if 33 with (first | ((with_reducible refine gate_callee (f := 20) rfl ?_); refine goesN_ 20 (some 33) Try.func20 #[.pointer (some ⟨g, 0, none⟩), .int .i64 3] ?_; (with_reducible refine (spec_l1Cur_one.calls g s0_0 x1001_1 x1002_1 3 t172 t173 t174 w0 _ ?side1 ?side2 A17.out).mono ?_); (case side1 => repeat (first | (with_reducible first | exact HI0.out | apply IsS42.alloc | apply IsS42.drewN | apply IsS42.drew | apply IsS42.set_1 | apply IsS42.set_2) | exact HI0.out)); (case side2 => repeat (first | (with_reducible first | exact HB.out | apply below_alloc | apply pw_below_drewN | apply below_drew1 | refine below_set ?_ (IsS42.ge HI0.out)) | exact HB.out)); rintro e w19 ⟨rfl, hi, hb, hk⟩; refine ⟨_, rfl, ?_⟩; replace HO_3 := Aside0.mk (Kd.R_mono (Kd.R_keep (IsS42.apart (show IsS42 w0 _ g s0_0 x1001_1 x1002_1 from by repeat (first | (with_reducible first | exact HI0.out | apply IsS42.alloc | apply IsS42.drewN | apply IsS42.drew | apply IsS42.set_1 | apply IsS42.set_2) | exact HI0.out)) Z93 (by decide)) hk (fun _ h => h.2)) (fun _ h => h.1)); replace HK := Aside0.mk (KeepBut.trans Z108 hk (.inl rfl)); replace HB := Aside0.mk hb; replace HI0 := Aside0.mk hi; clear hb hk hi))
    (try simp only [Act.put, List.setIfInBounds_toArray, List.set_cons_zero, List.set_cons_succ])
    go_cut [3] (fun v3 wc => ∃ (kq : Nat) (x3_17 : List (S25)) (x1001_17 : Int) (x1002_17 : Int), Aside0 (spec_l1Cur_config.j2 kq x3_17 s0_0 x1001_17 x1002_17 = some (r1, r2, r3)) ∧ Aside0 (kq ≤ k1) ∧ Aside0 (Kd.R k25 25 wc w.heap.size (fun _ => True) v3 x3_17) ∧ Aside0 (IsS42 w0 wc g s0_0 x1001_17 x1002_17) ∧ Aside0 (KeepBut w wc g none) ∧ Aside0 (Below w0.heap.size w0 wc))
    case first =>
     have H := HC18.out
     clear HC18
     by_cases c20 : t172 = true
     ·
      subst c20
      have H1 : ((spec_l1Cur_pick.f s0_0 t173 t174 5).bind fun bt175 => ((spec_l1Cur_pick.f s0_0 bt175.2.1 bt175.2.2 5).bind fun bt178 => (spec_l1Cur_config.l1 k1 ([] : List (S25)) (wrap64 (bt175.1 - 2)) (wrap64 (bt178.1 - 2)) x3_1 (x3_1.length : Int) 0 s0_0 bt178.2.1 bt178.2.2))) = some (r1, r2, r3) := by rw [if_pos rfl] at H; exact H
      clear H
      have H := H1
      clear H1
      replace H := Option.bind_eq_some_iff.mp H
      obtain ⟨⟨t175, t176, t177⟩, A210, H⟩ := H
      replace H : ((spec_l1Cur_pick.f s0_0 t176 t177 5).bind fun bt178 => (spec_l1Cur_config.l1 k1 ([] : List (S25)) (wrap64 (t175 - 2)) (wrap64 (bt178.1 - 2)) x3_1 (x3_1.length : Int) 0 s0_0 bt178.2.1 bt178.2.2)) = some (r1, r2, r3) := H
      have A21 := Aside0.mk A210
      clear A210
      replace H := Option.bind_eq_some_iff.mp H
      obtain ⟨⟨t178, t179, t180⟩, A220, H⟩ := H
      replace H : (spec_l1Cur_config.l1 k1 ([] : List (S25)) (wrap64 (t175 - 2)) (wrap64 (t178 - 2)) x3_1 (x3_1.length : Int) 0 s0_0 t179 t180) = some (r1, r2, r3) := H
      have A22 := Aside0.mk A220
      clear A220
      have H' := Aside0.mk H
      clear H
      go_wp2_with (first | ((with_reducible refine gate_callee (f := 21) rfl ?_); refine goesN_ 21 (some 35) Try.func21 #[.pointer (some ⟨g, 0, none⟩), .int .i64 5] ?_; (with_reducible refine (spec_l1Cur_pick.calls g s0_0 t173 t174 5 t175 t176 t177 w0 _ ?side1 ?side2 A21.out).mono ?_); (case side1 => repeat (first | (with_reducible first | exact HI0.out | apply IsS42.alloc | apply IsS42.drewN | apply IsS42.drew | apply IsS42.set_1 | apply IsS42.set_2) | exact HI0.out)); (case side2 => repeat (first | (with_reducible first | exact HB.out | apply below_alloc | apply pw_below_drewN | apply below_drew1 | refine below_set ?_ (IsS42.ge HI0.out)) | exact HB.out)); rintro e w23 ⟨rfl, hi, hb, hk⟩; refine ⟨_, rfl, ?_⟩; replace HO_3 := Aside0.mk (Kd.R_mono (Kd.R_keep (IsS42.apart (show IsS42 w0 _ g s0_0 t173 t174 from by repeat (first | (with_reducible first | exact HI0.out | apply IsS42.alloc | apply IsS42.drewN | apply IsS42.drew | apply IsS42.set_1 | apply IsS42.set_2) | exact HI0.out)) Z93 (by decide)) hk (fun _ h => h.2)) (fun _ h => h.1)); replace HK := Aside0.mk (KeepBut.trans Z108 hk (.inl rfl)); replace HB := Aside0.mk hb; replace HI0 := Aside0.mk hi; clear hb hk hi) | ((with_reducible refine gate_callee (f := 21) rfl ?_); refine goesN_ 21 (some 38) Try.func21 #[.pointer (some ⟨g, 0, none⟩), .int .i64 5] ?_; (with_reducible refine (spec_l1Cur_pick.calls g s0_0 t176 t177 5 t178 t179 t180 w0 _ ?side1 ?side2 A22.out).mono ?_); (case side1 => repeat (first | (with_reducible first | exact HI0.out | apply IsS42.alloc | apply IsS42.drewN | apply IsS42.drew | apply IsS42.set_1 | apply IsS42.set_2) | exact HI0.out)); (case side2 => repeat (first | (with_reducible first | exact HB.out | apply below_alloc | apply pw_below_drewN | apply below_drew1 | refine below_set ?_ (IsS42.ge HI0.out)) | exact HB.out)); rintro e w24 ⟨rfl, hi, hb, hk⟩; refine ⟨_, rfl, ?_⟩; replace HO_3 := Aside0.mk (Kd.R_mono (Kd.R_keep (IsS42.apart (show IsS42 w0 _ g s0_0 t176 t177 from by repeat (first | (with_reducible first | exact HI0.out | apply IsS42.alloc | apply IsS42.drewN | apply IsS42.drew | apply IsS42.set_1 | apply IsS42.set_2) | exact HI0.out)) Z93 (by decide)) hk (fun _ h => h.2)) (fun _ h => h.1)); replace HK := Aside0.mk (KeepBut.trans Z108 hk (.inl rfl)); replace HB := Aside0.mk hb; replace HI0 := Aside0.mk hi; clear hb hk hi; obtain ⟨Ao25, co25, eo25⟩ := Kd.R_slice HO_3.out; subst eo25))
      go_loopg [7, 42] k1 (fun kq v7 v42 w' => ∃ (x7_2 : List (S25)) (x42_2 : Int), v42 = .int .i64 x42_2 ∧ Aside0 (spec_l1Cur_config.l1 kq x7_2 (wrap64 (t175 - 2)) (wrap64 (t178 - 2)) x3_1 (x3_1.length : Int) x42_2 s0_0 t179 t180 = some (r1, r2, r3)) ∧ Aside0 (kq ≤ k1) ∧ Aside0 (Kd.R k25 25 w' w.heap.size (fun k_ => some k_ ≠ ((.slice Ao25 x3_1.length co25) : Value).ownBlock) v7 x7_2) ∧ Aside0 (Kd.R k25 25 w' w.heap.size (fun k_ => some k_ ≠ (v7 : Value).ownBlock) (.slice Ao25 x3_1.length co25) x3_1) ∧ Aside0 (IsS42 w0 w' g s0_0 t179 t180) ∧ Aside0 (KeepBut w w' g none) ∧ Aside0 (Below w0.heap.size w0 w'))
      case atStart => exact ⟨(([] : List (S25))), (0), Z91, H', ⟨Nat.le_refl _⟩, ⟨Z7⟩, ⟨(by (with_reducible repeat (first | apply Kd.R_alloc | apply Kd.R_drewN | apply Kd.R_drew)); exact Kd.R_mono HO_3.out (fun _ hk => (by simp [Value.ownBlock])))⟩, ⟨Z103⟩, ⟨Z108⟩, ⟨Z104⟩⟩
      case round =>
       clear H'
       try clear c1
       try clear c2
       try clear p2
       try clear c3
       try clear p6
       try clear c11
       try clear c11b0
       try clear c19
       try clear c20
       try clear c21
       try clear p2
       obtain ⟨x7_2, x42_2, rfl, HA, HK2, HO_7, HO_40, HI0, HK, HB⟩ := hrel
       cases gk with
       | zero => exact absurd HA.out (by simp [spec_l1Cur_config.l1])
       | succ k2 =>
        have H := HA.out
        clear HA
        simp only [spec_l1Cur_config.l1] at H
        by_cases c26 : x42_2 < (x3_1.length : Int)
        ·
         rw [if_pos c26] at H
         have c26b0 : decide (x42_2 < (x3_1.length : Int)) = true := decide_eq_true c26
         clear c26
         (first | rw [c26b0] | (simp only [i64_w, i32_w]; rw [c26b0]) | skip)
         by_cases c27 : 0 ≤ x42_2
         ·
          rw [if_pos c27] at H
          have c27b0 : decide (0 ≤ x42_2) = true := decide_eq_true c27
          clear c27
          by_cases c28 : x42_2 < (x3_1.length : Int)
          ·
           rw [if_pos c28] at H
           have c28b0 : decide (x42_2 < (x3_1.length : Int)) = true := decide_eq_true c28
           clear c28
           replace H := Option.bind_eq_some_iff.mp H
           obtain ⟨⟨t183, t184, t185, t186, t187⟩, A290, H⟩ := H
           replace H : (if t187 = true then (if x7_2.length < 4398046511104 then (spec_l1Cur_config.l1 k2 (x7_2 ++ [(⟨t183, t184, t185, t186⟩ : S25)]) (wrap64 (t175 - 2)) (wrap64 (t178 - 2)) x3_1 (x3_1.length : Int) (wrap64 (x42_2 + 1)) s0_0 t179 t180) else (none)) else (spec_l1Cur_config.l1 k2 x7_2 (wrap64 (t175 - 2)) (wrap64 (t178 - 2)) x3_1 (x3_1.length : Int) (wrap64 (x42_2 + 1)) s0_0 t179 t180)) = some (r1, r2, r3) := H
           have A29 := Aside0.mk A290
           clear A290
           by_cases c30 : t187 = true
           ·
            subst c30
            have H1 : (if x7_2.length < 4398046511104 then (spec_l1Cur_config.l1 k2 (x7_2 ++ [(⟨t183, t184, t185, t186⟩ : S25)]) (wrap64 (t175 - 2)) (wrap64 (t178 - 2)) x3_1 (x3_1.length : Int) (wrap64 (x42_2 + 1)) s0_0 t179 t180) else (none)) = some (r1, r2, r3) := by rw [if_pos rfl] at H; exact H
            clear H
            have H := H1
            clear H1
            by_cases c31 : x7_2.length < 4398046511104
            ·
             rw [if_pos c31] at H
             have LMc31 := Aside0.mk c31
             clear c31
             obtain ⟨y189, hy189⟩ : ∃ y_ : List (S25), y_ = (x7_2 ++ [(⟨t183, t184, t185, t186⟩ : S25)]) := ⟨_, rfl⟩
             replace H : (spec_l1Cur_config.l1 k2 y189 (wrap64 (t175 - 2)) (wrap64 (t178 - 2)) x3_1 (x3_1.length : Int) (wrap64 (x42_2 + 1)) s0_0 t179 t180) = some (r1, r2, r3) := by first | (rw [hy189]; with_reducible exact H) | (have H2_ := (Option.bind_some _ _).symm.trans H; rw [hy189]; with_reducible exact H2_) | (have H2_ := (Option.bind_some _ _).symm.trans H; with_reducible exact H2_) | with_reducible exact H | (rw [hy189]; exact H) | exact H
             have Ny189 := Aside0.mk hy189
             clear hy189
             have H' := Aside0.mk H
             clear H
             have p181 : 0 ≤ (x42_2 : Int) := of_decide_eq_true Z90
             have q181 : x42_2 < (x3_1.length : Int) := of_decide_eq_true Z90
             obtain ⟨ad181, e181, hx181_0, hx181_1, hx181_2, hx181_3⟩ := at_T25 (Kd.R_reads' HO_40.out).2.2 x42_2 p181 q181
             cases e181
             replace p181 := eq_true p181
             replace q181 := eq_true q181
             go_wp2_with (first | ((with_reducible refine gate_dst (N := 11) rfl ?_); refine boxN_ 11 #[.int .i64 0, .int .i64 0, .int .i64 0, .int .i64 0] 25 ?_; intro gb182 hg w32 hbox hb; replace HO_7 := Aside0.mk (Kd.R_below (Kd.R_elderB Z18 gb182 (Nat.le_of_eq hg.symm)) hb); replace HO_40 := Aside0.mk (Kd.R_below (Kd.R_elderB Z21 gb182 (Nat.le_of_eq hg.symm)) hb); replace HB := Aside0.mk (below_step Z104 hb); have BK182 := Aside0.mk hbox; have GW182 := Aside0.mk ((by rw [hg]; exact (keep_size (w := w) (g := g) (row := none) Z108) : w.heap.size ≤ gb182)); have GE182 := Aside0.mk ((Nat.le_trans HW0.out (by rw [hg]; exact (keep_size (w := w) (g := g) (row := none) Z108) : w.heap.size ≤ gb182) : w0.heap.size ≤ gb182)); replace HK := Aside0.mk (KeepBut.trans Z108 (KeepBut.of_below hb g none) (.inl rfl)); have NB0_182 := Aside0.mk ((by rw [hg]; exact Nat.ne_of_lt (IsS42.lt (show IsS42 w0 _ g s0_0 t179 t180 from by repeat (first | (with_reducible first | exact HI0.out | apply IsS42.alloc | apply IsS42.drewN | apply IsS42.drew | apply IsS42.set_1 | apply IsS42.set_2) | exact HI0.out))) : g ≠ gb182)); have NB182_0 := Aside0.mk ((by rw [hg]; exact Nat.ne_of_gt (IsS42.lt (show IsS42 w0 _ g s0_0 t179 t180 from by repeat (first | (with_reducible first | exact HI0.out | apply IsS42.alloc | apply IsS42.drewN | apply IsS42.drew | apply IsS42.set_1 | apply IsS42.set_2) | exact HI0.out))) : gb182 ≠ g)); replace HI0 := Aside0.mk (IsS42.below Z103 hb); clear hb hbox hg; have hnb33 := NB182_0.out; have hnc33 := NB0_182.out; obtain ⟨_, _, _, _, _, _, _, _⟩ := cz4_ BK182) | ((with_reducible refine gate_callee (f := 14) rfl ?_); refine goesN_ 14 (some 50) Try.func14 #[.agg #[.int .i64 ((rd_T25 x3_1 x42_2).f0), .int .i64 ((rd_T25 x3_1 x42_2).f1), .int .i64 ((rd_T25 x3_1 x42_2).f2), .int .i64 ((rd_T25 x3_1 x42_2).f3)], .int .i64 (wrap64 (t175 - 2)), .int .i64 (wrap64 (t178 - 2))] ?_; (with_reducible refine (spec_ShiftCircle.calls k2 ((rd_T25 x3_1 x42_2).f0) ((rd_T25 x3_1 x42_2).f1) ((rd_T25 x3_1 x42_2).f2) ((rd_T25 x3_1 x42_2).f3) (wrap64 (t175 - 2)) (wrap64 (t178 - 2)) t183 t184 t185 t186 true _ A29.out).mono ?_); rintro e w35 ⟨rfl, hb⟩; refine ⟨_, rfl, ?_⟩; replace HO_7 := Aside0.mk (Kd.R_below (by (with_reducible repeat (first | apply Kd.R_alloc | apply Kd.R_drewN | apply Kd.R_drew)); exact (Kd.R_mono (Kd.R_far (p := ⟨gb182, 3, none⟩) (Kd.R_far (p := ⟨gb182, 2, none⟩) (Kd.R_far (p := ⟨gb182, 1, none⟩) (Kd.R_far (p := ⟨gb182, 0, none⟩) (Kd.R_mono HO_7.out (fun k_ hk => (⟨hk, hk.2⟩ : _ ∧ k_ ≠ gb182))) (fun _ hk => hk.2) (.int .i64 ((rd_T25 x3_1 x42_2).f0))) (fun _ hk => hk.2) (.int .i64 ((rd_T25 x3_1 x42_2).f1))) (fun _ hk => hk.2) (.int .i64 ((rd_T25 x3_1 x42_2).f2))) (fun _ hk => hk.2) (.int .i64 ((rd_T25 x3_1 x42_2).f3))) (fun _ h_ => h_.1))) hb); replace HO_40 := Aside0.mk (Kd.R_below (by (with_reducible repeat (first | apply Kd.R_alloc | apply Kd.R_drewN | apply Kd.R_drew)); exact (Kd.R_mono (Kd.R_far (p := ⟨gb182, 3, none⟩) (Kd.R_far (p := ⟨gb182, 2, none⟩) (Kd.R_far (p := ⟨gb182, 1, none⟩) (Kd.R_far (p := ⟨gb182, 0, none⟩) (Kd.R_mono HO_40.out (fun k_ hk => (⟨hk, hk.2⟩ : _ ∧ k_ ≠ gb182))) (fun _ hk => hk.2) (.int .i64 ((rd_T25 x3_1 x42_2).f0))) (fun _ hk => hk.2) (.int .i64 ((rd_T25 x3_1 x42_2).f1))) (fun _ hk => hk.2) (.int .i64 ((rd_T25 x3_1 x42_2).f2))) (fun _ hk => hk.2) (.int .i64 ((rd_T25 x3_1 x42_2).f3))) (fun _ h_ => h_.1))) hb); replace BK182 := Aside0.mk (blk_below (g := gb182) (o := .cells #[.int .i64 ((rd_T25 x3_1 x42_2).f0), .int .i64 ((rd_T25 x3_1 x42_2).f1), .int .i64 ((rd_T25 x3_1 x42_2).f2), .int .i64 ((rd_T25 x3_1 x42_2).f3)] 25 (0, 0)) (by (with_reducible repeat (first | refine blk_drewN ?_ _ | refine blk_drew ?_ | refine blk_alloc ?_ _)); refine blk_put (cs := #[.int .i64 ((rd_T25 x3_1 x42_2).f0), .int .i64 ((rd_T25 x3_1 x42_2).f1), .int .i64 ((rd_T25 x3_1 x42_2).f2), .int .i64 0]) ?_ 3 _ rfl; (with_reducible repeat (first | refine blk_drewN ?_ _ | refine blk_drew ?_ | refine blk_alloc ?_ _)); refine blk_put (cs := #[.int .i64 ((rd_T25 x3_1 x42_2).f0), .int .i64 ((rd_T25 x3_1 x42_2).f1), .int .i64 0, .int .i64 0]) ?_ 2 _ rfl; (with_reducible repeat (first | refine blk_drewN ?_ _ | refine blk_drew ?_ | refine blk_alloc ?_ _)); refine blk_put (cs := #[.int .i64 ((rd_T25 x3_1 x42_2).f0), .int .i64 0, .int .i64 0, .int .i64 0]) ?_ 1 _ rfl; (with_reducible repeat (first | refine blk_drewN ?_ _ | refine blk_drew ?_ | refine blk_alloc ?_ _)); refine blk_put (cs := #[.int .i64 0, .int .i64 0, .int .i64 0, .int .i64 0]) ?_ 0 _ rfl; (with_reducible repeat (first | refine blk_drewN ?_ _ | refine blk_drew ?_ | refine blk_alloc ?_ _)); exact BK182.out) hb); replace HK := Aside0.mk (KeepBut.trans Z75 (KeepBut.of_below hb g none) (.inl rfl)); replace HB := Aside0.mk (below_step Z28 hb); replace HI0 := Aside0.mk (IsS42.below (show IsS42 w0 ((((w32.setCell ⟨gb182, 0, none⟩ (.int .i64 ((rd_T25 x3_1 x42_2).f0))).setCell ⟨gb182, 1, none⟩ (.int .i64 ((rd_T25 x3_1 x42_2).f1))).setCell ⟨gb182, 2, none⟩ (.int .i64 ((rd_T25 x3_1 x42_2).f2))).setCell ⟨gb182, 3, none⟩ (.int .i64 ((rd_T25 x3_1 x42_2).f3))) g s0_0 t179 t180 from by repeat (first | (with_reducible first | exact HI0.out | apply IsS42.alloc | apply IsS42.drewN | apply IsS42.drew | apply IsS42.set_1 | apply IsS42.set_2 | refine IsS42.far ?_ NB0_182.out _) | exact HI0.out)) hb); clear hb) | ((with_reducible refine gate_dst (N := 12) rfl ?_); refine boxN_ 12 #[.int .i64 0, .int .i64 0, .int .i64 0, .int .i64 0] 25 ?_; intro gb188 hg w36 hbox hb; replace HO_7 := Aside0.mk (Kd.R_below (Kd.R_elderB Z18 gb188 (Nat.le_of_eq hg.symm)) hb); replace HO_40 := Aside0.mk (Kd.R_below (Kd.R_elderB Z21 gb188 (Nat.le_of_eq hg.symm)) hb); replace HB := Aside0.mk (below_step Z28 hb); have BK188 := Aside0.mk hbox; have GW188 := Aside0.mk ((by rw [hg]; exact (keep_size (w := w) (g := g) (row := none) Z75) : w.heap.size ≤ gb188)); have GE188 := Aside0.mk ((Nat.le_trans HW0.out (by rw [hg]; exact (keep_size (w := w) (g := g) (row := none) Z75) : w.heap.size ≤ gb188) : w0.heap.size ≤ gb188)); replace HK := Aside0.mk (KeepBut.trans Z75 (KeepBut.of_below hb g none) (.inl rfl)); have NB182_188 := nl_ BK182 hg; have NB188_182 := ng_ BK182 hg; replace BK182 := bk_ BK182 hb; have NB0_188 := Aside0.mk ((by rw [hg]; exact Nat.ne_of_lt (IsS42.lt (show IsS42 w0 _ g s0_0 t179 t180 from by repeat (first | (with_reducible first | exact HI0.out | apply IsS42.alloc | apply IsS42.drewN | apply IsS42.drew | apply IsS42.set_1 | apply IsS42.set_2 | refine IsS42.far ?_ NB0_182.out _) | exact HI0.out))) : g ≠ gb188)); have NB188_0 := Aside0.mk ((by rw [hg]; exact Nat.ne_of_gt (IsS42.lt (show IsS42 w0 _ g s0_0 t179 t180 from by repeat (first | (with_reducible first | exact HI0.out | apply IsS42.alloc | apply IsS42.drewN | apply IsS42.drew | apply IsS42.set_1 | apply IsS42.set_2 | refine IsS42.far ?_ NB0_182.out _) | exact HI0.out))) : gb188 ≠ g)); replace HI0 := Aside0.mk (IsS42.below (by repeat (first | (with_reducible first | exact HI0.out | apply IsS42.alloc | apply IsS42.drewN | apply IsS42.drew | apply IsS42.set_1 | apply IsS42.set_2 | refine IsS42.far ?_ NB0_182.out _) | exact HI0.out)) hb); clear hb hbox hg; have hnb37 := NB188_182.out; have hnc37 := NB182_188.out; have hnb38 := NB188_0.out; have hnc38 := NB0_188.out; obtain ⟨_, _, _, _, _, _, _, _⟩ := cz4_ BK188) | ((with_reducible refine gate_builtin (b := .append) (xs := #[.tmp 54, .tmp 56]) rfl ?_); at_builtin; refine Kd.R_append k25 w.heap.size rfl (.tmp 54) (.tmp 56) 43 25 (.agg #[(.int .i64 0), (.int .i64 0), (.int .i64 0), (.int .i64 0)]) 32 rfl Try.underlying43 info25 rfl (by decide) (by omega) u7 x7_2 (⟨t183, t184, t185, t186⟩ : S25) [.int .i64 t183, .int .i64 t184, .int .i64 t185, .int .i64 t186] (fun k_ => some k_ ≠ (.slice (some ad181) x3_1.length co25 : Value).ownBlock ∧ k_ ≠ gb182 ∧ k_ ≠ gb188) (fun _ => False) rfl (by first | (go_simp; done) | (go_simp; rfl)) ?aP (fun _ hk => hk.elim) ?aF ?aO (Below.refl _ _) ?aS ?aL ?_; (case aP => exact k25_mkM _ _ _ (⟨t183, t184, t185, t186⟩ : S25)); (case aF => exact (fun k_ hk => ⟨Kd.fresh' (Kd.R_lt (by (with_reducible repeat (first | apply Kd.R_alloc | apply Kd.R_drewN | apply Kd.R_drew)); exact (Kd.R_mono (Kd.R_far (p := ⟨gb188, 3, none⟩) (Kd.R_far (p := ⟨gb188, 2, none⟩) (Kd.R_far (p := ⟨gb188, 1, none⟩) (Kd.R_far (p := ⟨gb188, 0, none⟩) (Kd.R_mono HO_40.out (fun k_ hk => (⟨hk, hk.2⟩ : _ ∧ k_ ≠ gb188))) (fun _ hk => hk.2) (.int .i64 t183)) (fun _ hk => hk.2) (.int .i64 t184)) (fun _ hk => hk.2) (.int .i64 t185)) (fun _ hk => hk.2) (.int .i64 t186)) (fun _ h_ => h_.1)))) k_ hk, Kd.freshB (g := gb182) (o := .cells #[.int .i64 ((rd_T25 x3_1 x42_2).f0), .int .i64 ((rd_T25 x3_1 x42_2).f1), .int .i64 ((rd_T25 x3_1 x42_2).f2), .int .i64 ((rd_T25 x3_1 x42_2).f3)] 25 (0, 0)) (by (with_reducible repeat (first | refine blk_drewN ?_ _ | refine blk_drew ?_ | refine blk_alloc ?_ _)); refine blk_far ?_ NB182_188.out _; (with_reducible repeat (first | refine blk_drewN ?_ _ | refine blk_drew ?_ | refine blk_alloc ?_ _)); refine blk_far ?_ NB182_188.out _; (with_reducible repeat (first | refine blk_drewN ?_ _ | refine blk_drew ?_ | refine blk_alloc ?_ _)); refine blk_far ?_ NB182_188.out _; (with_reducible repeat (first | refine blk_drewN ?_ _ | refine blk_drew ?_ | refine blk_alloc ?_ _)); refine blk_far ?_ NB182_188.out _; (with_reducible repeat (first | refine blk_drewN ?_ _ | refine blk_drew ?_ | refine blk_alloc ?_ _)); exact BK182.out) k_ hk, Kd.freshB (g := gb188) (o := .cells #[.int .i64 t183, .int .i64 t184, .int .i64 t185, .int .i64 t186] 25 (0, 0)) (by (with_reducible repeat (first | refine blk_drewN ?_ _ | refine blk_drew ?_ | refine blk_alloc ?_ _)); refine blk_put (cs := #[.int .i64 t183, .int .i64 t184, .int .i64 t185, .int .i64 0]) ?_ 3 _ rfl; (with_reducible repeat (first | refine blk_drewN ?_ _ | refine blk_drew ?_ | refine blk_alloc ?_ _)); refine blk_put (cs := #[.int .i64 t183, .int .i64 t184, .int .i64 0, .int .i64 0]) ?_ 2 _ rfl; (with_reducible repeat (first | refine blk_drewN ?_ _ | refine blk_drew ?_ | refine blk_alloc ?_ _)); refine blk_put (cs := #[.int .i64 t183, .int .i64 0, .int .i64 0, .int .i64 0]) ?_ 1 _ rfl; (with_reducible repeat (first | refine blk_drewN ?_ _ | refine blk_drew ?_ | refine blk_alloc ?_ _)); refine blk_put (cs := #[.int .i64 0, .int .i64 0, .int .i64 0, .int .i64 0]) ?_ 0 _ rfl; (with_reducible repeat (first | refine blk_drewN ?_ _ | refine blk_drew ?_ | refine blk_alloc ?_ _)); exact BK188.out) k_ hk⟩)); (case aO => exact (by (with_reducible repeat (first | apply Kd.R_alloc | apply Kd.R_drewN | apply Kd.R_drew)); exact Kd.R_mono (Kd.R_far (p := ⟨gb188, 3, none⟩) (Kd.R_far (p := ⟨gb188, 2, none⟩) (Kd.R_far (p := ⟨gb188, 1, none⟩) (Kd.R_far (p := ⟨gb188, 0, none⟩) (Kd.R_mono HO_7.out (fun k_ hk => (⟨hk, hk.2⟩ : _ ∧ k_ ≠ gb188))) (fun _ hk => hk.2) (.int .i64 t183)) (fun _ hk => hk.2) (.int .i64 t184)) (fun _ hk => hk.2) (.int .i64 t185)) (fun _ hk => hk.2) (.int .i64 t186)) (fun _ hk => ⟨hk.1.1.1, ⟨hk.1.1.2, hk.1.2⟩⟩))); (case aS => exact (keep_size (w := w) (g := g) (row := none) Z29)); (case aL => have := LMc31.out; omega); intro v190 w40 ho hb hg hat; rw [← Ny189.out] at ho; replace HO_40 := Aside0.mk (Kd.R_after (ok := (fun k_ => k_ ≠ gb182 ∧ k_ ≠ gb188)) (by (with_reducible repeat (first | apply Kd.R_alloc | apply Kd.R_drewN | apply Kd.R_drew)); exact Kd.R_mono (Kd.R_far (p := ⟨gb188, 3, none⟩) (Kd.R_far (p := ⟨gb188, 2, none⟩) (Kd.R_far (p := ⟨gb188, 1, none⟩) (Kd.R_far (p := ⟨gb188, 0, none⟩) (Kd.R_mono HO_40.out (fun k_ hk => (⟨hk, hk.2⟩ : _ ∧ k_ ≠ gb188))) (fun _ hk => hk.2) (.int .i64 t183)) (fun _ hk => hk.2) (.int .i64 t184)) (fun _ hk => hk.2) (.int .i64 t185)) (fun _ hk => hk.2) (.int .i64 t186)) (fun _ hk => ⟨⟨hk.1.1.2, hk.1.2⟩, hk.1.1.1⟩)) hg hat); replace BK182 := Aside0.mk (blk_grown (g := gb182) (o := .cells #[.int .i64 ((rd_T25 x3_1 x42_2).f0), .int .i64 ((rd_T25 x3_1 x42_2).f1), .int .i64 ((rd_T25 x3_1 x42_2).f2), .int .i64 ((rd_T25 x3_1 x42_2).f3)] 25 (0, 0)) (by (with_reducible repeat (first | refine blk_drewN ?_ _ | refine blk_drew ?_ | refine blk_alloc ?_ _)); refine blk_far ?_ NB182_188.out _; (with_reducible repeat (first | refine blk_drewN ?_ _ | refine blk_drew ?_ | refine blk_alloc ?_ _)); refine blk_far ?_ NB182_188.out _; (with_reducible repeat (first | refine blk_drewN ?_ _ | refine blk_drew ?_ | refine blk_alloc ?_ _)); refine blk_far ?_ NB182_188.out _; (with_reducible repeat (first | refine blk_drewN ?_ _ | refine blk_drew ?_ | refine blk_alloc ?_ _)); refine blk_far ?_ NB182_188.out _; (with_reducible repeat (first | refine blk_drewN ?_ _ | refine blk_drew ?_ | refine blk_alloc ?_ _)); exact BK182.out) hg (Kd.R_away HO_7.out (fun _ hk => hk.1.2))); replace BK188 := Aside0.mk (blk_grown (g := gb188) (o := .cells #[.int .i64 t183, .int .i64 t184, .int .i64 t185, .int .i64 t186] 25 (0, 0)) (by (with_reducible repeat (first | refine blk_drewN ?_ _ | refine blk_drew ?_ | refine blk_alloc ?_ _)); refine blk_put (cs := #[.int .i64 t183, .int .i64 t184, .int .i64 t185, .int .i64 0]) ?_ 3 _ rfl; (with_reducible repeat (first | refine blk_drewN ?_ _ | refine blk_drew ?_ | refine blk_alloc ?_ _)); refine blk_put (cs := #[.int .i64 t183, .int .i64 t184, .int .i64 0, .int .i64 0]) ?_ 2 _ rfl; (with_reducible repeat (first | refine blk_drewN ?_ _ | refine blk_drew ?_ | refine blk_alloc ?_ _)); refine blk_put (cs := #[.int .i64 t183, .int .i64 0, .int .i64 0, .int .i64 0]) ?_ 1 _ rfl; (with_reducible repeat (first | refine blk_drewN ?_ _ | refine blk_drew ?_ | refine blk_alloc ?_ _)); refine blk_put (cs := #[.int .i64 0, .int .i64 0, .int .i64 0, .int .i64 0]) ?_ 0 _ rfl; (with_reducible repeat (first | refine blk_drewN ?_ _ | refine blk_drew ?_ | refine blk_alloc ?_ _)); exact BK188.out) hg (Kd.R_away HO_7.out (fun _ hk => hk.2))); replace HB := Aside0.mk (below_weaken Z22 HL.out hb); replace HI0 := Aside0.mk (IsS42.grown (show IsS42 w0 _ g s0_0 t179 t180 from by repeat (first | (with_reducible first | exact HI0.out | apply IsS42.alloc | apply IsS42.drewN | apply IsS42.drew | apply IsS42.set_1 | apply IsS42.set_2 | refine IsS42.far ?_ NB0_182.out _ | refine IsS42.far ?_ NB0_188.out _) | exact HI0.out)) hg (IsS42.own_ne HI0.out HO_7.out (by decide))); replace HK := Aside0.mk (KeepBut.trans Z29 (KeepBut.of_grown hg g) (Kd.R_base2 HO_7.out)); have HO191 := Aside0.mk ho; clear HO_7; clear ho hb hg hat))
             go_roundg k2
             case measure => have := HK1.out; have := HK2.out; omega
             case rel => exact ⟨(y189), (wrap64 (x42_2 + 1)), Z91, H', ⟨(by have := HK1.out; have := HK2.out; omega)⟩, ⟨(by (with_reducible repeat (first | apply Kd.R_alloc | apply Kd.R_drewN | apply Kd.R_drew)); exact Kd.R_mono HO191.out (fun _ hk => hk.1))⟩, ⟨(by (with_reducible repeat (first | apply Kd.R_alloc | apply Kd.R_drewN | apply Kd.R_drew)); exact Kd.R_mono HO_40.out (fun _ hk => hk.2))⟩, ⟨(by repeat (first | (with_reducible first | exact HI0.out | apply IsS42.alloc | apply IsS42.drewN | apply IsS42.drew | apply IsS42.set_1 | apply IsS42.set_2 | refine IsS42.far ?_ NB0_182.out _ | refine IsS42.far ?_ NB0_188.out _) | exact HI0.out))⟩, ⟨Z29⟩, ⟨Z22⟩⟩
            ·
             rw [if_neg c31] at H
             exact absurd H (by simp)
           ·
            replace c30 := Bool.eq_false_iff.mpr c30
            subst c30
            have H1 : (spec_l1Cur_config.l1 k2 x7_2 (wrap64 (t175 - 2)) (wrap64 (t178 - 2)) x3_1 (x3_1.length : Int) (wrap64 (x42_2 + 1)) s0_0 t179 t180) = some (r1, r2, r3) := by rw [if_neg (show ¬ (false = true) by decide)] at H; exact H
            clear H
            have H := H1
            clear H1
            have H' := Aside0.mk H
            clear H
            have p181 : 0 ≤ (x42_2 : Int) := of_decide_eq_true Z90
            have q181 : x42_2 < (x3_1.length : Int) := of_decide_eq_true Z90
            obtain ⟨ad181, e181, hx181_0, hx181_1, hx181_2, hx181_3⟩ := at_T25 (Kd.R_reads' HO_40.out).2.2 x42_2 p181 q181
            cases e181
            replace p181 := eq_true p181
            replace q181 := eq_true q181
            go_wp2_with (first | ((with_reducible refine gate_dst (N := 11) rfl ?_); refine boxN_ 11 #[.int .i64 0, .int .i64 0, .int .i64 0, .int .i64 0] 25 ?_; intro gb182 hg w41 hbox hb; replace HO_7 := Aside0.mk (Kd.R_below (Kd.R_elderB Z18 gb182 (Nat.le_of_eq hg.symm)) hb); replace HO_40 := Aside0.mk (Kd.R_below (Kd.R_elderB Z21 gb182 (Nat.le_of_eq hg.symm)) hb); replace HB := Aside0.mk (below_step Z104 hb); have BK182 := Aside0.mk hbox; have GW182 := Aside0.mk ((by rw [hg]; exact (keep_size (w := w) (g := g) (row := none) Z108) : w.heap.size ≤ gb182)); have GE182 := Aside0.mk ((Nat.le_trans HW0.out (by rw [hg]; exact (keep_size (w := w) (g := g) (row := none) Z108) : w.heap.size ≤ gb182) : w0.heap.size ≤ gb182)); replace HK := Aside0.mk (KeepBut.trans Z108 (KeepBut.of_below hb g none) (.inl rfl)); have NB0_182 := Aside0.mk ((by rw [hg]; exact Nat.ne_of_lt (IsS42.lt (show IsS42 w0 _ g s0_0 t179 t180 from by repeat (first | (with_reducible first | exact HI0.out | apply IsS42.alloc | apply IsS42.drewN | apply IsS42.drew | apply IsS42.set_1 | apply IsS42.set_2) | exact HI0.out))) : g ≠ gb182)); have NB182_0 := Aside0.mk ((by rw [hg]; exact Nat.ne_of_gt (IsS42.lt (show IsS42 w0 _ g s0_0 t179 t180 from by repeat (first | (with_reducible first | exact HI0.out | apply IsS42.alloc | apply IsS42.drewN | apply IsS42.drew | apply IsS42.set_1 | apply IsS42.set_2) | exact HI0.out))) : gb182 ≠ g)); replace HI0 := Aside0.mk (IsS42.below Z103 hb); clear hb hbox hg; have hnb42 := NB182_0.out; have hnc42 := NB0_182.out; obtain ⟨_, _, _, _, _, _, _, _⟩ := cz4_ BK182) | ((with_reducible refine gate_callee (f := 14) rfl ?_); refine goesN_ 14 (some 50) Try.func14 #[.agg #[.int .i64 ((rd_T25 x3_1 x42_2).f0), .int .i64 ((rd_T25 x3_1 x42_2).f1), .int .i64 ((rd_T25 x3_1 x42_2).f2), .int .i64 ((rd_T25 x3_1 x42_2).f3)], .int .i64 (wrap64 (t175 - 2)), .int .i64 (wrap64 (t178 - 2))] ?_; (with_reducible refine (spec_ShiftCircle.calls k2 ((rd_T25 x3_1 x42_2).f0) ((rd_T25 x3_1 x42_2).f1) ((rd_T25 x3_1 x42_2).f2) ((rd_T25 x3_1 x42_2).f3) (wrap64 (t175 - 2)) (wrap64 (t178 - 2)) t183 t184 t185 t186 false _ A29.out).mono ?_); rintro e w44 ⟨rfl, hb⟩; refine ⟨_, rfl, ?_⟩; replace HO_7 := Aside0.mk (Kd.R_below (by (with_reducible repeat (first | apply Kd.R_alloc | apply Kd.R_drewN | apply Kd.R_drew)); exact (Kd.R_mono (Kd.R_far (p := ⟨gb182, 3, none⟩) (Kd.R_far (p := ⟨gb182, 2, none⟩) (Kd.R_far (p := ⟨gb182, 1, none⟩) (Kd.R_far (p := ⟨gb182, 0, none⟩) (Kd.R_mono HO_7.out (fun k_ hk => (⟨hk, hk.2⟩ : _ ∧ k_ ≠ gb182))) (fun _ hk => hk.2) (.int .i64 ((rd_T25 x3_1 x42_2).f0))) (fun _ hk => hk.2) (.int .i64 ((rd_T25 x3_1 x42_2).f1))) (fun _ hk => hk.2) (.int .i64 ((rd_T25 x3_1 x42_2).f2))) (fun _ hk => hk.2) (.int .i64 ((rd_T25 x3_1 x42_2).f3))) (fun _ h_ => h_.1))) hb); replace HO_40 := Aside0.mk (Kd.R_below (by (with_reducible repeat (first | apply Kd.R_alloc | apply Kd.R_drewN | apply Kd.R_drew)); exact (Kd.R_mono (Kd.R_far (p := ⟨gb182, 3, none⟩) (Kd.R_far (p := ⟨gb182, 2, none⟩) (Kd.R_far (p := ⟨gb182, 1, none⟩) (Kd.R_far (p := ⟨gb182, 0, none⟩) (Kd.R_mono HO_40.out (fun k_ hk => (⟨hk, hk.2⟩ : _ ∧ k_ ≠ gb182))) (fun _ hk => hk.2) (.int .i64 ((rd_T25 x3_1 x42_2).f0))) (fun _ hk => hk.2) (.int .i64 ((rd_T25 x3_1 x42_2).f1))) (fun _ hk => hk.2) (.int .i64 ((rd_T25 x3_1 x42_2).f2))) (fun _ hk => hk.2) (.int .i64 ((rd_T25 x3_1 x42_2).f3))) (fun _ h_ => h_.1))) hb); replace BK182 := Aside0.mk (blk_below (g := gb182) (o := .cells #[.int .i64 ((rd_T25 x3_1 x42_2).f0), .int .i64 ((rd_T25 x3_1 x42_2).f1), .int .i64 ((rd_T25 x3_1 x42_2).f2), .int .i64 ((rd_T25 x3_1 x42_2).f3)] 25 (0, 0)) (by (with_reducible repeat (first | refine blk_drewN ?_ _ | refine blk_drew ?_ | refine blk_alloc ?_ _)); refine blk_put (cs := #[.int .i64 ((rd_T25 x3_1 x42_2).f0), .int .i64 ((rd_T25 x3_1 x42_2).f1), .int .i64 ((rd_T25 x3_1 x42_2).f2), .int .i64 0]) ?_ 3 _ rfl; (with_reducible repeat (first | refine blk_drewN ?_ _ | refine blk_drew ?_ | refine blk_alloc ?_ _)); refine blk_put (cs := #[.int .i64 ((rd_T25 x3_1 x42_2).f0), .int .i64 ((rd_T25 x3_1 x42_2).f1), .int .i64 0, .int .i64 0]) ?_ 2 _ rfl; (with_reducible repeat (first | refine blk_drewN ?_ _ | refine blk_drew ?_ | refine blk_alloc ?_ _)); refine blk_put (cs := #[.int .i64 ((rd_T25 x3_1 x42_2).f0), .int .i64 0, .int .i64 0, .int .i64 0]) ?_ 1 _ rfl; (with_reducible repeat (first | refine blk_drewN ?_ _ | refine blk_drew ?_ | refine blk_alloc ?_ _)); refine blk_put (cs := #[.int .i64 0, .int .i64 0, .int .i64 0, .int .i64 0]) ?_ 0 _ rfl; (with_reducible repeat (first | refine blk_drewN ?_ _ | refine blk_drew ?_ | refine blk_alloc ?_ _)); exact BK182.out) hb); replace HK := Aside0.mk (KeepBut.trans Z75 (KeepBut.of_below hb g none) (.inl rfl)); replace HB := Aside0.mk (below_step Z28 hb); replace HI0 := Aside0.mk (IsS42.below (show IsS42 w0 ((((w41.setCell ⟨gb182, 0, none⟩ (.int .i64 ((rd_T25 x3_1 x42_2).f0))).setCell ⟨gb182, 1, none⟩ (.int .i64 ((rd_T25 x3_1 x42_2).f1))).setCell ⟨gb182, 2, none⟩ (.int .i64 ((rd_T25 x3_1 x42_2).f2))).setCell ⟨gb182, 3, none⟩ (.int .i64 ((rd_T25 x3_1 x42_2).f3))) g s0_0 t179 t180 from by repeat (first | (with_reducible first | exact HI0.out | apply IsS42.alloc | apply IsS42.drewN | apply IsS42.drew | apply IsS42.set_1 | apply IsS42.set_2 | refine IsS42.far ?_ NB0_182.out _) | exact HI0.out)) hb); clear hb) | ((with_reducible refine gate_dst (N := 12) rfl ?_); refine boxN_ 12 #[.int .i64 0, .int .i64 0, .int .i64 0, .int .i64 0] 25 ?_; intro gb188 hg w45 hbox hb; replace HO_7 := Aside0.mk (Kd.R_below (Kd.R_elderB Z18 gb188 (Nat.le_of_eq hg.symm)) hb); replace HO_40 := Aside0.mk (Kd.R_below (Kd.R_elderB Z21 gb188 (Nat.le_of_eq hg.symm)) hb); replace HB := Aside0.mk (below_step Z28 hb); have BK188 := Aside0.mk hbox; have GW188 := Aside0.mk ((by rw [hg]; exact (keep_size (w := w) (g := g) (row := none) Z75) : w.heap.size ≤ gb188)); have GE188 := Aside0.mk ((Nat.le_trans HW0.out (by rw [hg]; exact (keep_size (w := w) (g := g) (row := none) Z75) : w.heap.size ≤ gb188) : w0.heap.size ≤ gb188)); replace HK := Aside0.mk (KeepBut.trans Z75 (KeepBut.of_below hb g none) (.inl rfl)); have NB182_188 := nl_ BK182 hg; have NB188_182 := ng_ BK182 hg; replace BK182 := bk_ BK182 hb; have NB0_188 := Aside0.mk ((by rw [hg]; exact Nat.ne_of_lt (IsS42.lt (show IsS42 w0 _ g s0_0 t179 t180 from by repeat (first | (with_reducible first | exact HI0.out | apply IsS42.alloc | apply IsS42.drewN | apply IsS42.drew | apply IsS42.set_1 | apply IsS42.set_2 | refine IsS42.far ?_ NB0_182.out _) | exact HI0.out))) : g ≠ gb188)); have NB188_0 := Aside0.mk ((by rw [hg]; exact Nat.ne_of_gt (IsS42.lt (show IsS42 w0 _ g s0_0 t179 t180 from by repeat (first | (with_reducible first | exact HI0.out | apply IsS42.alloc | apply IsS42.drewN | apply IsS42.drew | apply IsS42.set_1 | apply IsS42.set_2 | refine IsS42.far ?_ NB0_182.out _) | exact HI0.out))) : gb188 ≠ g)); replace HI0 := Aside0.mk (IsS42.below (by repeat (first | (with_reducible first | exact HI0.out | apply IsS42.alloc | apply IsS42.drewN | apply IsS42.drew | apply IsS42.set_1 | apply IsS42.set_2 | refine IsS42.far ?_ NB0_182.out _) | exact HI0.out)) hb); clear hb hbox hg; have hnb46 := NB188_182.out; have hnc46 := NB182_188.out; have hnb47 := NB188_0.out; have hnc47 := NB0_188.out; obtain ⟨_, _, _, _, _, _, _, _⟩ := cz4_ BK188))
            go_roundg k2
            case measure => have := HK1.out; have := HK2.out; omega
            case rel => exact ⟨(x7_2), (wrap64 (x42_2 + 1)), Z91, H', ⟨(by have := HK1.out; have := HK2.out; omega)⟩, ⟨(by (with_reducible repeat (first | apply Kd.R_alloc | apply Kd.R_drewN | apply Kd.R_drew)); exact Kd.R_mono (Kd.R_far (p := ⟨gb188, 3, none⟩) (Kd.R_far (p := ⟨gb188, 2, none⟩) (Kd.R_far (p := ⟨gb188, 1, none⟩) (Kd.R_far (p := ⟨gb188, 0, none⟩) (Kd.R_mono HO_7.out (fun k_ hk => (⟨hk, hk.2⟩ : _ ∧ k_ ≠ gb188))) (fun _ hk => hk.2) (.int .i64 t183)) (fun _ hk => hk.2) (.int .i64 t184)) (fun _ hk => hk.2) (.int .i64 t185)) (fun _ hk => hk.2) (.int .i64 t186)) (fun _ hk => hk.1.1.1))⟩, ⟨(by (with_reducible repeat (first | apply Kd.R_alloc | apply Kd.R_drewN | apply Kd.R_drew)); exact Kd.R_mono (Kd.R_far (p := ⟨gb188, 3, none⟩) (Kd.R_far (p := ⟨gb188, 2, none⟩) (Kd.R_far (p := ⟨gb188, 1, none⟩) (Kd.R_far (p := ⟨gb188, 0, none⟩) (Kd.R_mono HO_40.out (fun k_ hk => (⟨hk, hk.2⟩ : _ ∧ k_ ≠ gb188))) (fun _ hk => hk.2) (.int .i64 t183)) (fun _ hk => hk.2) (.int .i64 t184)) (fun _ hk => hk.2) (.int .i64 t185)) (fun _ hk => hk.2) (.int .i64 t186)) (fun _ hk => hk.1.1.1))⟩, ⟨(by repeat (first | (with_reducible first | exact HI0.out | apply IsS42.alloc | apply IsS42.drewN | apply IsS42.drew | apply IsS42.set_1 | apply IsS42.set_2 | refine IsS42.far ?_ NB0_182.out _ | refine IsS42.far ?_ NB0_188.out _) | exact HI0.out))⟩, ⟨Z29⟩, ⟨Z22⟩⟩
          ·
           rw [if_neg c28] at H
           exact absurd H (by simp)
         ·
          rw [if_neg c27] at H
          exact absurd H (by simp)
        ·
         rw [if_neg c26] at H
         have c26b0 : decide (x42_2 < (x3_1.length : Int)) = false := decide_eq_false c26
         clear c26
         (first | rw [c26b0] | (simp only [i64_w, i32_w]; rw [c26b0]) | skip)
         have H' := Aside0.mk H
         clear H
         go_wp2
         go_meet
         case rel => exact ⟨_, (x7_2), (t179), (t180), H', ⟨(by have := HK1.out; have := HK2.out; first | omega | exact Nat.le_refl _)⟩, ⟨(by (with_reducible repeat (first | apply Kd.R_alloc | apply Kd.R_drewN | apply Kd.R_drew)); exact Kd.R_mono HO_7.out (fun _ hk => trivial))⟩, ⟨Z103⟩, ⟨Z108⟩, ⟨Z104⟩⟩
     ·
      replace c20 := Bool.eq_false_iff.mpr c20
      subst c20
      have H1 : (spec_l1Cur_config.j2 k1 x3_1 s0_0 t173 t174) = some (r1, r2, r3) := by rw [if_neg (show ¬ (false = true) by decide)] at H; exact H
      clear H
      have H := H1
      clear H1
      have H' := Aside0.mk H
      clear H
      go_wp2
      go_meet
      case rel => exact ⟨_, (x3_1), (t173), (t174), H', ⟨(by have := HK1.out; first | omega | exact Nat.le_refl _)⟩, ⟨Z93⟩, ⟨Z103⟩, ⟨Z108⟩, ⟨Z104⟩⟩
    case rest =>
     clear HC18
     try clear c1
     try clear p1
     try clear q1
     try clear hx1
     try clear c2
     try clear p2
     try clear c3
     try clear c4
     try clear p6
     try clear c11
     try clear c11b0
     try clear c14
     try clear p18
     try clear q18
     try clear hx18
     try clear c19
     try clear c20
     try clear c21
     try clear c26
     try clear c26b0
     try clear c27
     try clear c27b0
     try clear c28
     try clear c28b0
     try clear c30
     try clear c31
     try clear c33
     try clear c35
     try clear c36
     try clear c37
     try clear c38
     try clear c42
     try clear c46
     try clear c47
     try clear hcz34_0
     try clear hcz34_1
     try clear hcz34_2
     try clear hcz34_3
     try clear hcz39_0
     try clear hcz39_1
     try clear hcz39_2
     try clear hcz39_3
     try clear hcz43_0
     try clear hcz43_1
     try clear hcz43_2
     try clear hcz43_3
     try clear hcz48_0
     try clear hcz48_1
     try clear hcz48_2
     try clear hcz48_3
     try clear hfz34_0
     try clear hfz34_1
     try clear hfz34_2
     try clear hfz34_3
     try clear hfz39_0
     try clear hfz39_1
     try clear hfz39_2
     try clear hfz39_3
     try clear hfz43_0
     try clear hfz43_1
     try clear hfz43_2
     try clear hfz43_3
     try clear hfz48_0
     try clear hfz48_1
     try clear hfz48_2
     try clear hfz48_3
     try clear hx181_0
     try clear hx181_1
     try clear hx181_2
     try clear hx181_3
     try clear p181
     try clear p2
     try clear p6
     try clear q181
     obtain ⟨kq, x3_17, x1001_17, x1002_17, HA, HJ17, HO_3, HI0, HK, HB⟩ := hcut
     cases kq with
     | zero => exact absurd HA.out (by simp [spec_l1Cur_config.j2])
     | succ kj17 =>
      have H := HA.out
      clear HA
      simp only [spec_l1Cur_config.j2] at H
      replace H := Option.bind_eq_some_iff.mp H
      obtain ⟨⟨t192, t193, t194⟩, A490, H⟩ := H
      replace H : (if t192 = 0 then (if (x3_17.length : Int) > 0 then ((spec_l1Cur_pick.f s0_0 t193 t194 (x3_17.length : Int)).bind fun bt195 => ((spec_l1Cur_pick.f s0_0 bt195.2.1 bt195.2.2 3).bind fun bt198 => ((spec_l1Cur_pick.f s0_0 bt198.2.1 bt198.2.2 3).bind fun bt201 => (if 0 ≤ bt195.1 then (if bt195.1 < (x3_17.length : Int) then (some ((x3_17.set (bt195.1 : Int).toNat (⟨bt198.1, wrap64 (bt201.1 - 1), 1, 0⟩ : S25)), bt201.2.1, bt201.2.2)) else (none)) else (none))))) else (some (x3_17, t193, t194))) else (if t192 = 1 then (if x3_17.length < 4398046511104 then (some ((x3_17 ++ [(⟨0, 0, 0, 1⟩ : S25)]), t193, t194)) else (none)) else (if t192 = 2 then (some (([] : List (S25)), t193, t194)) else (some (x3_17, t193, t194))))) = some (r1, r2, r3) := H
      have A49 := Aside0.mk A490
      clear A490
      by_cases c50 : t192 = 0
      ·
       rw [if_pos c50] at H
       have c50b0 : (t192 == 0) = true := beq_iff_eq.mpr c50
       have c50b1 : (t192 != 0) = false := bne_eq_false_iff_eq.mpr c50
       clear c50
       by_cases c51 : (x3_17.length : Int) > 0
       ·
        rw [if_pos c51] at H
        have c51b0 : decide (0 < (x3_17.length : Int)) = true := decide_eq_true c51
        have c51b1 : decide (0 < x3_17.length) = true := decide_eq_true (by omega)
        clear c51
        replace H := Option.bind_eq_some_iff.mp H
        obtain ⟨⟨t195, t196, t197⟩, A520, H⟩ := H
        replace H : ((spec_l1Cur_pick.f s0_0 t196 t197 3).bind fun bt198 => ((spec_l1Cur_pick.f s0_0 bt198.2.1 bt198.2.2 3).bind fun bt201 => (if 0 ≤ t195 then (if t195 < (x3_17.length : Int) then (some ((x3_17.set (t195 : Int).toNat (⟨bt198.1, wrap64 (bt201.1 - 1), 1, 0⟩ : S25)), bt201.2.1, bt201.2.2)) else (none)) else (none)))) = some (r1, r2, r3) := H
        have A52 := Aside0.mk A520
        clear A520
        replace H := Option.bind_eq_some_iff.mp H
        obtain ⟨⟨t198, t199, t200⟩, A530, H⟩ := H
        replace H : ((spec_l1Cur_pick.f s0_0 t199 t200 3).bind fun bt201 => (if 0 ≤ t195 then (if t195 < (x3_17.length : Int) then (some ((x3_17.set (t195 : Int).toNat (⟨t198, wrap64 (bt201.1 - 1), 1, 0⟩ : S25)), bt201.2.1, bt201.2.2)) else (none)) else (none))) = some (r1, r2, r3) := H
        have A53 := Aside0.mk A530
        clear A530
        replace H := Option.bind_eq_some_iff.mp H
        obtain ⟨⟨t201, t202, t203⟩, A540, H⟩ := H
        replace H : (if 0 ≤ t195 then (if t195 < (x3_17.length : Int) then (some ((x3_17.set (t195 : Int).toNat (⟨t198, wrap64 (t201 - 1), 1, 0⟩ : S25)), t202, t203)) else (none)) else (none)) = some (r1, r2, r3) := H
        have A54 := Aside0.mk A540
        clear A540
        by_cases c55 : 0 ≤ t195
        ·
         rw [if_pos c55] at H
         have c55b0 : decide (0 ≤ t195) = true := decide_eq_true c55
         clear c55
         by_cases c56 : t195 < (x3_17.length : Int)
         ·
          rw [if_pos c56] at H
          have c56b0 : decide (t195 < (x3_17.length : Int)) = true := decide_eq_true c56
          clear c56
          obtain ⟨y204, hy204⟩ : ∃ y_ : List (S25), y_ = (x3_17.set (t195 : Int).toNat (⟨t198, wrap64 (t201 - 1), 1, 0⟩ : S25)) := ⟨_, rfl⟩
          replace H : (some (y204, t202, t203)) = some (r1, r2, r3) := by first | (rw [hy204]; with_reducible exact H) | (have H2_ := (Option.bind_some _ _).symm.trans H; rw [hy204]; with_reducible exact H2_) | (have H2_ := (Option.bind_some _ _).symm.trans H; with_reducible exact H2_) | with_reducible exact H | (rw [hy204]; exact H) | exact H
          have Ny204 := Aside0.mk hy204
          clear hy204
          simp only [Option.some.injEq, Prod.mk.injEq] at H
          obtain ⟨rfl, rfl, rfl⟩ := H
          go_wp2_with (first | ((with_reducible refine gate_callee (f := 21) rfl ?_); refine goesN_ 21 (some 61) Try.func21 #[.pointer (some ⟨g, 0, none⟩), .int .i64 20] ?_; (with_reducible refine (spec_l1Cur_pick.calls g s0_0 x1001_17 x1002_17 20 t192 t193 t194 w0 _ ?side1 ?side2 A49.out).mono ?_); (case side1 => repeat (first | (with_reducible first | exact HI0.out | apply IsS42.alloc | apply IsS42.drewN | apply IsS42.drew | apply IsS42.set_1 | apply IsS42.set_2) | exact HI0.out)); (case side2 => repeat (first | (with_reducible first | exact HB.out | apply below_alloc | apply pw_below_drewN | apply below_drew1 | refine below_set ?_ (IsS42.ge HI0.out)) | exact HB.out)); rintro e w58 ⟨rfl, hi, hb, hk⟩; refine ⟨_, rfl, ?_⟩; replace HO_3 := Aside0.mk (Kd.R_mono (Kd.R_keep (IsS42.apart (show IsS42 w0 _ g s0_0 x1001_17 x1002_17 from by repeat (first | (with_reducible first | exact HI0.out | apply IsS42.alloc | apply IsS42.drewN | apply IsS42.drew | apply IsS42.set_1 | apply IsS42.set_2) | exact HI0.out)) Z93 (by decide)) hk (fun _ h => h.2)) (fun _ h => h.1)); replace HK := Aside0.mk (KeepBut.trans Z108 hk (.inl rfl)); replace HB := Aside0.mk hb; replace HI0 := Aside0.mk hi; clear hb hk hi; obtain ⟨Ao59, co59, eo59⟩ := Kd.R_slice HO_3.out; subst eo59) | ((with_reducible refine gate_callee (f := 21) rfl ?_); refine goesN_ 21 (some 71) Try.func21 #[.pointer (some ⟨g, 0, none⟩), .int .i64 (x3_17.length : Int)] ?_; (with_reducible refine (spec_l1Cur_pick.calls g s0_0 t193 t194 (x3_17.length : Int) t195 t196 t197 w0 _ ?side1 ?side2 A52.out).mono ?_); (case side1 => repeat (first | (with_reducible first | exact HI0.out | apply IsS42.alloc | apply IsS42.drewN | apply IsS42.drew | apply IsS42.set_1 | apply IsS42.set_2) | exact HI0.out)); (case side2 => repeat (first | (with_reducible first | exact HB.out | apply below_alloc | apply pw_below_drewN | apply below_drew1 | refine below_set ?_ (IsS42.ge HI0.out)) | exact HB.out)); rintro e w60 ⟨rfl, hi, hb, hk⟩; refine ⟨_, rfl, ?_⟩; replace HO_3 := Aside0.mk (Kd.R_mono (Kd.R_keep (IsS42.apart (show IsS42 w0 _ g s0_0 t193 t194 from by repeat (first | (with_reducible first | exact HI0.out | apply IsS42.alloc | apply IsS42.drewN | apply IsS42.drew | apply IsS42.set_1 | apply IsS42.set_2) | exact HI0.out)) Z93 (by decide)) hk (fun _ h => h.2)) (fun _ h => h.1)); replace HK := Aside0.mk (KeepBut.trans Z108 hk (.inl rfl)); replace HB := Aside0.mk hb; replace HI0 := Aside0.mk hi; clear hb hk hi) | ((with_reducible refine gate_callee (f := 21) rfl ?_); refine goesN_ 21 (some 73) Try.func21 #[.pointer (some ⟨g, 0, none⟩), .int .i64 3] ?_; (with_reducible refine (spec_l1Cur_pick.calls g s0_0 t196 t197 3 t198 t199 t200 w0 _ ?side1 ?side2 A53.out).mono ?_); (case side1 => repeat (first | (with_reducible first | exact HI0.out | apply IsS42.alloc | apply IsS42.drewN | apply IsS42.drew | apply IsS42.set_1 | apply IsS42.set_2) | exact HI0.out)); (case side2 => repeat (first | (with_reducible first | exact HB.out | apply below_alloc | apply pw_below_drewN | apply below_drew1 | refine below_set ?_ (IsS42.ge HI0.out)) | exact HB.out)); rintro e w61 ⟨rfl, hi, hb, hk⟩; refine ⟨_, rfl, ?_⟩; replace HO_3 := Aside0.mk (Kd.R_mono (Kd.R_keep (IsS42.apart (show IsS42 w0 _ g s0_0 t196 t197 from by repeat (first | (with_reducible first | exact HI0.out | apply IsS42.alloc | apply IsS42.drewN | apply IsS42.drew | apply IsS42.set_1 | apply IsS42.set_2) | exact HI0.out)) Z93 (by decide)) hk (fun _ h => h.2)) (fun _ h => h.1)); replace HK := Aside0.mk (KeepBut.trans Z108 hk (.inl rfl)); replace HB := Aside0.mk hb; replace HI0 := Aside0.mk hi; clear hb hk hi) | ((with_reducible refine gate_callee (f := 21) rfl ?_); refine goesN_ 21 (some 75) Try.func21 #[.pointer (some ⟨g, 0, none⟩), .int .i64 3] ?_; (with_reducible refine (spec_l1Cur_pick.calls g s0_0 t199 t200 3 t201 t202 t203 w0 _ ?side1 ?side2 A54.out).mono ?_); (case side1 => repeat (first | (with_reducible first | exact HI0.out | apply IsS42.alloc | apply IsS42.drewN | apply IsS42.drew | apply IsS42.set_1 | apply IsS42.set_2) | exact HI0.out)); (case side2 => repeat (first | (with_reducible first | exact HB.out | apply below_alloc | apply pw_below_drewN | apply below_drew1 | refine below_set ?_ (IsS42.ge HI0.out)) | exact HB.out)); rintro e w62 ⟨rfl, hi, hb, hk⟩; refine ⟨_, rfl, ?_⟩; replace HO_3 := Aside0.mk (Kd.R_mono (Kd.R_keep (IsS42.apart (show IsS42 w0 _ g s0_0 t199 t200 from by repeat (first | (with_reducible first | exact HI0.out | apply IsS42.alloc | apply IsS42.drewN | apply IsS42.drew | apply IsS42.set_1 | apply IsS42.set_2) | exact HI0.out)) Z93 (by decide)) hk (fun _ h => h.2)) (fun _ h => h.1)); replace HK := Aside0.mk (KeepBut.trans Z108 hk (.inl rfl)); replace HB := Aside0.mk hb; replace HI0 := Aside0.mk hi; clear hb hk hi; have p57 : 0 ≤ (t195 : Int) := of_decide_eq_true Z90; have q57 : (t195 : Int) < ((x3_17.length : Int) : Int) := of_decide_eq_true Z90; obtain ⟨go57, co57, eo57, gb57, gl57, cl57, HG57⟩ := Kd.R_form HO_3.out (by omega); (first | cases eo57 | (injection eo57 with ea_ en_ ec_; (first | subst ea_ | (injection ea_ with ea_; subst ea_)); subst ec_; clear en_)); have GB57 := Aside0.mk gb57; have GG57 := Aside0.mk HG57; clear gb57 gl57 HG57; obtain ⟨ce57, hcl57, hM57, hcc57, hfr57⟩ := Kd.R_elem HO_3.out z25 (t195 : Int) p57 q57; obtain rfl := k25_openM hM57; have hx57_0 : w62.cell? ⟨go57, (t195 : Int).toNat * 4, none⟩ = some (.int .i64 ((rd_T25 x3_17 t195).f0)) := hcc57 0 _ rfl; have hx57_1 : w62.cell? ⟨go57, (t195 : Int).toNat * 4 + 1, none⟩ = some (.int .i64 ((rd_T25 x3_17 t195).f1)) := hcc57 1 _ rfl; have hx57_2 : w62.cell? ⟨go57, (t195 : Int).toNat * 4 + 2, none⟩ = some (.int .i64 ((rd_T25 x3_17 t195).f2)) := hcc57 2 _ rfl; have hx57_3 : w62.cell? ⟨go57, (t195 : Int).toNat * 4 + 3, none⟩ = some (.int .i64 ((rd_T25 x3_17 t195).f3)) := hcc57 3 _ rfl; have hf57_0 : w62.frozen? ⟨go57, (t195 : Int).toNat * 4, none⟩ = false := hfr57 0; have hf57_1 : w62.frozen? ⟨go57, (t195 : Int).toNat * 4 + 1, none⟩ = false := hfr57 1; have hf57_2 : w62.frozen? ⟨go57, (t195 : Int).toNat * 4 + 2, none⟩ = false := hfr57 2; have hf57_3 : w62.frozen? ⟨go57, (t195 : Int).toNat * 4 + 3, none⟩ = false := hfr57 3; (try clear hcl57); (try clear hcc57); (try clear hfr57); (try clear hM57); replace p57 := eq_true p57; replace q57 := eq_true q57; have HX63 := Aside0.mk (show Kd.R k25 25 w62 w.heap.size (fun _ => True) (.slice (some ⟨go57, 0, none⟩) x3_17.length co59) x3_17 from Z93); obtain ⟨ce63, hcl63, hM63, hcc63, hfr63⟩ := Kd.R_elem HX63.out z25 (t195 : Int) (of_decide_eq_true Z90) (by have h_ : (t195 : Int) < ((x3_17.length : Int) : Int) := of_decide_eq_true Z90; first | exact h_ | (have e_ := (Kd.R_reads' HO_3.out).1; omega) | simpa using h_); obtain rfl := k25_openM hM63; have HP63 := Kd.R_seg HX63.out (t195 : Int) (of_decide_eq_true Z90) (by have h_ : (t195 : Int) < ((x3_17.length : Int) : Int) := of_decide_eq_true Z90; first | exact h_ | (have e_ := (Kd.R_reads' HO_3.out).1; omega) | simpa using h_) (seg := [.int .i64 t198, .int .i64 (wrap64 (t201 - 1)), .int .i64 1, .int .i64 0]) (j := 0) hcl63 hcc63 (show 4 ≤ 4 from by decide) (x' := (⟨t198, wrap64 (t201 - 1), 1, 0⟩ : S25)) (k25_mkM _ _ _ (⟨t198, wrap64 (t201 - 1), 1, 0⟩ : S25) ) (fun _ hk => hk); have hx63_0 := hcc63 0 _ rfl; (try simp only [show (k25).sz = 4 from rfl, Nat.mul_one, Nat.add_zero] at hx63_0); have hf63_0 := hfr63 0; (try simp only [show (k25).sz = 4 from rfl, Nat.mul_one, Nat.add_zero] at hf63_0); have hx63_1 := hcc63 1 _ rfl; (try simp only [show (k25).sz = 4 from rfl, Nat.mul_one, Nat.add_zero] at hx63_1); have hf63_1 := hfr63 1; (try simp only [show (k25).sz = 4 from rfl, Nat.mul_one, Nat.add_zero] at hf63_1); have hx63_2 := hcc63 2 _ rfl; (try simp only [show (k25).sz = 4 from rfl, Nat.mul_one, Nat.add_zero] at hx63_2); have hf63_2 := hfr63 2; (try simp only [show (k25).sz = 4 from rfl, Nat.mul_one, Nat.add_zero] at hf63_2); have hx63_3 := hcc63 3 _ rfl; (try simp only [show (k25).sz = 4 from rfl, Nat.mul_one, Nat.add_zero] at hx63_3); have hf63_3 := hfr63 3; (try simp only [show (k25).sz = 4 from rfl, Nat.mul_one, Nat.add_zero] at hf63_3); (try clear hcl63); (try clear hcc63); (try clear hfr63); (try clear hM63)) | ((with_reducible refine gate_store (t := 25) (p := 78) rfl ?_); refine store_event (t := 25) (p := 78) (v := ?vo_w64) (w1 := ((((w62.setCell ⟨go57, (t195 : Int).toNat * 4, none⟩ (.int .i64 t198)).setCell ⟨go57, (t195 : Int).toNat * 4 + 1, none⟩ (.int .i64 (wrap64 (t201 - 1)))).setCell ⟨go57, (t195 : Int).toNat * 4 + 2, none⟩ (.int .i64 1)).setCell ⟨go57, (t195 : Int).toNat * 4 + 3, none⟩ (.int .i64 0))) ?hg ?ho ?hn ?hr ?_; (case ho => rfl); (case hg => rfl); (case hn => rfl); (case hr => first | (go_simp; done) | (go_simp; rfl)); intro w64 hw; have hg : w62.grownBy w64 (some go57) := (by rw [hw]; exact HP63.2); have hp_ : Kd.R k25 25 w64 w.heap.size (fun _ => True) (.slice (some ⟨go57, 0, none⟩) x3_17.length co59) y204 := (by rw [hw, Ny204.out]; exact HP63.1); clear HP63; replace HI0 := Aside0.mk (IsS42.grown (show IsS42 w0 _ g s0_0 t202 t203 from by repeat (first | (with_reducible first | exact HI0.out | apply IsS42.alloc | apply IsS42.drewN | apply IsS42.drew | apply IsS42.set_1 | apply IsS42.set_2) | exact HI0.out)) hg (IsS42.own_ne HI0.out HO_3.out (by decide))); replace HB := Aside0.mk ((by rw [hw]; exact below_set (below_set (below_set (below_set (HB.out) (Nat.le_trans HL.out GB57.out)) (Nat.le_trans HL.out GB57.out)) (Nat.le_trans HL.out GB57.out)) (Nat.le_trans HL.out GB57.out) : Below w0.heap.size w0 w64)); replace HK := Aside0.mk (KeepBut.trans Z108 (KeepBut.of_grown hg g) (Kd.R_base2 HO_3.out)); replace HO_3 := Aside0.mk hp_; clear hg hw hp_))
          go_ret
          exact ⟨_, Z106, Z93, Z103, Z104, Z108⟩
         ·
          rw [if_neg c56] at H
          exact absurd H (by simp)
        ·
         rw [if_neg c55] at H
         exact absurd H (by simp)
       ·
        rw [if_neg c51] at H
        have c51b0 : decide (0 < (x3_17.length : Int)) = false := decide_eq_false c51
        have c51b1 : decide (0 < x3_17.length) = false := decide_eq_false (by omega)
        clear c51
        simp only [Option.some.injEq, Prod.mk.injEq] at H
        obtain ⟨rfl, rfl, rfl⟩ := H
        go_wp2_with (first | ((with_reducible refine gate_callee (f := 21) rfl ?_); refine goesN_ 21 (some 61) Try.func21 #[.pointer (some ⟨g, 0, none⟩), .int .i64 20] ?_; (with_reducible refine (spec_l1Cur_pick.calls g s0_0 x1001_17 x1002_17 20 t192 t193 t194 w0 _ ?side1 ?side2 A49.out).mono ?_); (case side1 => repeat (first | (with_reducible first | exact HI0.out | apply IsS42.alloc | apply IsS42.drewN | apply IsS42.drew | apply IsS42.set_1 | apply IsS42.set_2) | exact HI0.out)); (case side2 => repeat (first | (with_reducible first | exact HB.out | apply below_alloc | apply pw_below_drewN | apply below_drew1 | refine below_set ?_ (IsS42.ge HI0.out)) | exact HB.out)); rintro e w65 ⟨rfl, hi, hb, hk⟩; refine ⟨_, rfl, ?_⟩; replace HO_3 := Aside0.mk (Kd.R_mono (Kd.R_keep (IsS42.apart (show IsS42 w0 _ g s0_0 x1001_17 x1002_17 from by repeat (first | (with_reducible first | exact HI0.out | apply IsS42.alloc | apply IsS42.drewN | apply IsS42.drew | apply IsS42.set_1 | apply IsS42.set_2) | exact HI0.out)) Z93 (by decide)) hk (fun _ h => h.2)) (fun _ h => h.1)); replace HK := Aside0.mk (KeepBut.trans Z108 hk (.inl rfl)); replace HB := Aside0.mk hb; replace HI0 := Aside0.mk hi; clear hb hk hi; obtain ⟨Ao66, co66, eo66⟩ := Kd.R_slice HO_3.out; subst eo66))
        go_ret
        exact ⟨_, Z106, Z93, Z103, Z104, Z108⟩
      ·
       rw [if_neg c50] at H
       have c50b0 : (t192 == 0) = false := beq_eq_false_iff_ne.mpr c50
       have c50b1 : (t192 != 0) = true := bne_iff_ne.mpr c50
       by_cases c67 : t192 = 1
       ·
        rw [if_pos c67] at H
        have c67b0 : (t192 == 1) = true := beq_iff_eq.mpr c67
        have c67b1 : (t192 != 1) = false := bne_eq_false_iff_eq.mpr c67
        clear c67
        by_cases c68 : x3_17.length < 4398046511104
        ·
         rw [if_pos c68] at H
         have LMc68 := Aside0.mk c68
         clear c68
         obtain ⟨y205, hy205⟩ : ∃ y_ : List (S25), y_ = (x3_17 ++ [(⟨0, 0, 0, 1⟩ : S25)]) := ⟨_, rfl⟩
         replace H : (some (y205, t193, t194)) = some (r1, r2, r3) := by first | (rw [hy205]; with_reducible exact H) | (have H2_ := (Option.bind_some _ _).symm.trans H; rw [hy205]; with_reducible exact H2_) | (have H2_ := (Option.bind_some _ _).symm.trans H; with_reducible exact H2_) | with_reducible exact H | (rw [hy205]; exact H) | exact H
         have Ny205 := Aside0.mk hy205
         clear hy205
         simp only [Option.some.injEq, Prod.mk.injEq] at H
         obtain ⟨rfl, rfl, rfl⟩ := H
         go_wp2_with (first | ((with_reducible refine gate_callee (f := 21) rfl ?_); refine goesN_ 21 (some 61) Try.func21 #[.pointer (some ⟨g, 0, none⟩), .int .i64 20] ?_; (with_reducible refine (spec_l1Cur_pick.calls g s0_0 x1001_17 x1002_17 20 t192 t193 t194 w0 _ ?side1 ?side2 A49.out).mono ?_); (case side1 => repeat (first | (with_reducible first | exact HI0.out | apply IsS42.alloc | apply IsS42.drewN | apply IsS42.drew | apply IsS42.set_1 | apply IsS42.set_2) | exact HI0.out)); (case side2 => repeat (first | (with_reducible first | exact HB.out | apply below_alloc | apply pw_below_drewN | apply below_drew1 | refine below_set ?_ (IsS42.ge HI0.out)) | exact HB.out)); rintro e w69 ⟨rfl, hi, hb, hk⟩; refine ⟨_, rfl, ?_⟩; replace HO_3 := Aside0.mk (Kd.R_mono (Kd.R_keep (IsS42.apart (show IsS42 w0 _ g s0_0 x1001_17 x1002_17 from by repeat (first | (with_reducible first | exact HI0.out | apply IsS42.alloc | apply IsS42.drewN | apply IsS42.drew | apply IsS42.set_1 | apply IsS42.set_2) | exact HI0.out)) Z93 (by decide)) hk (fun _ h => h.2)) (fun _ h => h.1)); replace HK := Aside0.mk (KeepBut.trans Z108 hk (.inl rfl)); replace HB := Aside0.mk hb; replace HI0 := Aside0.mk hi; clear hb hk hi) | ((with_reducible refine gate_builtin (b := .append) (xs := #[.tmp 81, .tmp 83]) rfl ?_); at_builtin; refine Kd.R_append k25 w.heap.size rfl (.tmp 81) (.tmp 83) 43 25 (.agg #[(.int .i64 0), (.int .i64 0), (.int .i64 0), (.int .i64 0)]) 32 rfl Try.underlying43 info25 rfl (by decide) (by omega) u3 x3_17 (⟨0, 0, 0, 1⟩ : S25) [.int .i64 0, .int .i64 0, .int .i64 0, .int .i64 1] (fun _ => True) (fun _ => False) rfl rfl ?aP (fun _ hk => hk.elim) ?aF ?aO (Below.refl _ _) ?aS ?aL ?_; (case aP => exact k25_mkM _ _ _ (⟨0, 0, 0, 1⟩ : S25)); (case aF => exact (fun _ _ => trivial)); (case aO => exact Z93); (case aS => exact (keep_size (w := w) (g := g) (row := none) Z108)); (case aL => have := LMc68.out; omega); intro v206 w70 ho hb hg hat; rw [← Ny205.out] at ho; replace HB := Aside0.mk (below_weaken Z104 HL.out hb); replace HI0 := Aside0.mk (IsS42.grown (show IsS42 w0 _ g s0_0 t193 t194 from by repeat (first | (with_reducible first | exact HI0.out | apply IsS42.alloc | apply IsS42.drewN | apply IsS42.drew | apply IsS42.set_1 | apply IsS42.set_2) | exact HI0.out)) hg (IsS42.own_ne HI0.out HO_3.out (by decide))); replace HK := Aside0.mk (KeepBut.trans Z108 (KeepBut.of_grown hg g) (Kd.R_base2 HO_3.out)); have HO207 := Aside0.mk ho; clear HO_3; clear ho hb hg hat))
         go_ret
         exact ⟨_, Z106, (by (with_reducible repeat (first | apply Kd.R_alloc | apply Kd.R_drewN | apply Kd.R_drew)); exact HO207.out), Z103, Z104, Z108⟩
        ·
         rw [if_neg c68] at H
         exact absurd H (by simp)
       ·
        rw [if_neg c67] at H
        have c67b0 : (t192 == 1) = false := beq_eq_false_iff_ne.mpr c67
        have c67b1 : (t192 != 1) = true := bne_iff_ne.mpr c67
        by_cases c71 : t192 = 2
        ·
         rw [if_pos c71] at H
         have c71b0 : (t192 == 2) = true := beq_iff_eq.mpr c71
         have c71b1 : (t192 != 2) = false := bne_eq_false_iff_eq.mpr c71
         clear c71
         simp only [Option.some.injEq, Prod.mk.injEq] at H
         obtain ⟨rfl, rfl, rfl⟩ := H
         go_wp2_with (first | ((with_reducible refine gate_callee (f := 21) rfl ?_); refine goesN_ 21 (some 61) Try.func21 #[.pointer (some ⟨g, 0, none⟩), .int .i64 20] ?_; (with_reducible refine (spec_l1Cur_pick.calls g s0_0 x1001_17 x1002_17 20 t192 t193 t194 w0 _ ?side1 ?side2 A49.out).mono ?_); (case side1 => repeat (first | (with_reducible first | exact HI0.out | apply IsS42.alloc | apply IsS42.drewN | apply IsS42.drew | apply IsS42.set_1 | apply IsS42.set_2) | exact HI0.out)); (case side2 => repeat (first | (with_reducible first | exact HB.out | apply below_alloc | apply pw_below_drewN | apply below_drew1 | refine below_set ?_ (IsS42.ge HI0.out)) | exact HB.out)); rintro e w72 ⟨rfl, hi, hb, hk⟩; refine ⟨_, rfl, ?_⟩; replace HO_3 := Aside0.mk (Kd.R_mono (Kd.R_keep (IsS42.apart (show IsS42 w0 _ g s0_0 x1001_17 x1002_17 from by repeat (first | (with_reducible first | exact HI0.out | apply IsS42.alloc | apply IsS42.drewN | apply IsS42.drew | apply IsS42.set_1 | apply IsS42.set_2) | exact HI0.out)) Z93 (by decide)) hk (fun _ h => h.2)) (fun _ h => h.1)); replace HK := Aside0.mk (KeepBut.trans Z108 hk (.inl rfl)); replace HB := Aside0.mk hb; replace HI0 := Aside0.mk hi; clear hb hk hi))
         go_ret
         exact ⟨_, Z106, Z7, Z103, Z104, Z108⟩
        ·
         rw [if_neg c71] at H
         have c71b0 : (t192 == 2) = false := beq_eq_false_iff_ne.mpr c71
         have c71b1 : (t192 != 2) = true := bne_iff_ne.mpr c71
         simp only [Option.some.injEq, Prod.mk.injEq] at H
         obtain ⟨rfl, rfl, rfl⟩ := H
         go_wp2_with (first | ((with_reducible refine gate_callee (f := 21) rfl ?_); refine goesN_ 21 (some 61) Try.func21 #[.pointer (some ⟨g, 0, none⟩), .int .i64 20] ?_; (with_reducible refine (spec_l1Cur_pick.calls g s0_0 x1001_17 x1002_17 20 t192 t193 t194 w0 _ ?side1 ?side2 A49.out).mono ?_); (case side1 => repeat (first | (with_reducible first | exact HI0.out | apply IsS42.alloc | apply IsS42.drewN | apply IsS42.drew | apply IsS42.set_1 | apply IsS42.set_2) | exact HI0.out)); (case side2 => repeat (first | (with_reducible first | exact HB.out | apply below_alloc | apply pw_below_drewN | apply below_drew1 | refine below_set ?_ (IsS42.ge HI0.out)) | exact HB.out)); rintro e w73 ⟨rfl, hi, hb, hk⟩; refine ⟨_, rfl, ?_⟩; replace HO_3 := Aside0.mk (Kd.R_mono (Kd.R_keep (IsS42.apart (show IsS42 w0 _ g s0_0 x1001_17 x1002_17 from by repeat (first | (with_reducible first | exact HI0.out | apply IsS42.alloc | apply IsS42.drewN | apply IsS42.drew | apply IsS42.set_1 | apply IsS42.set_2) | exact HI0.out)) Z93 (by decide)) hk (fun _ h => h.2)) (fun _ h => h.1)); replace HK := Aside0.mk (KeepBut.trans Z108 hk (.inl rfl)); replace HB := Aside0.mk hb; replace HI0 := Aside0.mk hi; clear hb hk hi))
         go_ret
         exact ⟨_, Z106, Z93, Z103, Z104, Z108⟩

end Go.Proofs.Ytkllcinoodfffaa.P
