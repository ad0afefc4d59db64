/- Written by a program of this session: for Go functions that a statement reaches, Lean functions with the same answers and the proofs that the calls come to them; conditions: none but the arguments' kinds. -/
import Derived.Test.YtmnjijobpejpgaaP1
namespace Go.Proofs.Ytmnjijobpejpgaa.P
open Go.RowKit Go.Proofs.YtmnjijobpejpgaaW.PrintWords Go.Proofs.YtmnjijobpejpgaaW.PrintLast Go.Proofs.YtmnjijobpejpgaaW.PrintMore
attribute [local go_sem] max2_int min2_int max_two min_two max_three min_three max_four min_four   -- for this text's walks alone
set_option linter.unusedVariables false
set_option linter.unusedSimpArgs false

/-! ### impl_StartConfig: function 47 -/
def impl_StartConfig.f (a0 : Int) : Option ((List (S38)) × Bool) := if a0 = 0 then (some ((([(⟨1, (-1), 0, 0⟩ : S38), (⟨0, 2, 1, 0⟩ : S38), (⟨0, 2, (-1), 0⟩ : S38), (⟨1, 3, 0, 2⟩ : S38)] : List (S38))), true)) else (if a0 = 1 then (some ((([(⟨4, 0, 0, 1⟩ : S38), (⟨0, 0, 0, (-1)⟩ : S38), (⟨0, 1, 0, 1⟩ : S38), (⟨4, 1, 2, 1⟩ : S38)] : List (S38))), true)) else (some (([] : List (S38)), false)))
set_option maxHeartbeats 8000000 in
set_option maxRecDepth 100000 in
theorem impl_StartConfig.calls (a0 : Int) (r1 : List (S38)) (r2 : Bool) (w : World) (h : impl_StartConfig.f a0 = some (r1, r2)) :
  Calls Try.prog 47 #[.int .i64 a0] w fun e w' => ∃ v0_ : Value, e = .returned (.tuple #[v0_, .bool r2]) ∧ Kd.R k38 38 w' w.heap.size (fun _ => True) v0_ r1 ∧ Below w.heap.size w w' := by
 have hu38 := Try.underlying38
 have HB := Aside0.mk (Below.refl w.heap.size w)
 have H : (if a0 = 0 then (some ((([(⟨1, (-1), 0, 0⟩ : S38), (⟨0, 2, 1, 0⟩ : S38), (⟨0, 2, (-1), 0⟩ : S38), (⟨1, 3, 0, 2⟩ : S38)] : List (S38))), true)) else (if a0 = 1 then (some ((([(⟨4, 0, 0, 1⟩ : S38), (⟨0, 0, 0, (-1)⟩ : S38), (⟨0, 1, 0, 1⟩ : S38), (⟨4, 1, 2, 1⟩ : S38)] : List (S38))), true)) else (some (([] : List (S38)), false)))) = some (r1, r2) := h
 clear h
 by_cases c2 : a0 = 0
 ·
  rw [if_pos c2] at H
  have c2b0 : (a0 == 0) = true := beq_iff_eq.mpr c2
  have c2b1 : (a0 != 0) = false := bne_eq_false_iff_eq.mpr c2
  clear c2
  obtain ⟨y811, hy811⟩ : ∃ y_ : List (S38), y_ = (([(⟨1, (-1), 0, 0⟩ : S38), (⟨0, 2, 1, 0⟩ : S38), (⟨0, 2, (-1), 0⟩ : S38), (⟨1, 3, 0, 2⟩ : S38)] : List (S38))) := ⟨_, rfl⟩
  replace H : (some (y811, true)) = some (r1, r2) := by first | (rw [hy811]; with_reducible exact H) | (have H2_ := (Option.bind_some _ _).symm.trans H; rw [hy811]; with_reducible exact H2_) | (have H2_ := (Option.bind_some _ _).symm.trans H; with_reducible exact H2_) | with_reducible exact H | (rw [hy811]; exact H) | exact H
  have Ny811 := Aside0.mk hy811
  clear hy811
  simp only [Option.some.injEq, Prod.mk.injEq] at H
  obtain ⟨rfl, rfl⟩ := H
  go_enter Try.func47, Try.ntmps47
  go_wp2_with (first | ((with_reducible refine gate_dst (N := 11) rfl ?_); refine Kd.R_lit k38 _ 38 ?hg (N := 11) ?hd (xs := ([(⟨1, (-1), 0, 0⟩ : S38), (⟨0, 2, 1, 0⟩ : S38), (⟨0, 2, (-1), 0⟩ : S38), (⟨1, 3, 0, 2⟩ : S38)] : List (S38))) (inner := [.int .i64 1, .int .i64 (-1), .int .i64 0, .int .i64 0, .int .i64 0, .int .i64 2, .int .i64 1, .int .i64 0, .int .i64 0, .int .i64 2, .int .i64 (-1), .int .i64 0, .int .i64 1, .int .i64 3, .int .i64 0, .int .i64 2]) (ok := fun _ => True) (okp := fun _ => True) ?hr ?hp (fun _ hk => hk) trivial (Below.refl _ _) (Nat.le_refl _) (by simp) ?_; (case hd => rfl); (case hg => rfl); (case hr => first | (go_simp; done) | (go_simp; rfl)); (case hp => exact (Reps.c4 (show Kd.M k38 _ _ _ (⟨1, (-1), 0, 0⟩ : S38) [.int .i64 1, .int .i64 (-1), .int .i64 0, .int .i64 0] from (k38_mkM _ _ _ (⟨1, (-1), 0, 0⟩ : S38) )) (Reps.c4 (show Kd.M k38 _ _ _ (⟨0, 2, 1, 0⟩ : S38) [.int .i64 0, .int .i64 2, .int .i64 1, .int .i64 0] from (k38_mkM _ _ _ (⟨0, 2, 1, 0⟩ : S38) )) (Reps.c4 (show Kd.M k38 _ _ _ (⟨0, 2, (-1), 0⟩ : S38) [.int .i64 0, .int .i64 2, .int .i64 (-1), .int .i64 0] from (k38_mkM _ _ _ (⟨0, 2, (-1), 0⟩ : S38) )) (Reps.c4 (show Kd.M k38 _ _ _ (⟨1, 3, 0, 2⟩ : S38) [.int .i64 1, .int .i64 3, .int .i64 0, .int .i64 2] from (k38_mkM _ _ _ (⟨1, 3, 0, 2⟩ : S38) )) (Reps.none _ _)))))); intro v812 w3 ho4 hb hg_ hnew_; clear hg_ hnew_; (first | rw [← Ny811.out] at ho4 | (simp only [Int.reduceToNat] at ho4; rw [← Ny811.out] at ho4)); have n0_ := Aside0.mk (Kd.R_lower ho4 (below_size (by repeat (first | (with_reducible first | exact HB.out | apply below_alloc | apply pw_below_drewN | apply below_drew1) | exact HB.out)))); have n1_ := Aside0.mk (below_step (by repeat (first | (with_reducible first | exact HB.out | apply below_alloc | apply pw_below_drewN | apply below_drew1) | exact HB.out)) hb); clear HB; have HO813 := n0_; have HB := n1_; clear n0_ n1_; clear hb ho4))
  go_ret2
  exact ⟨_, by first | rfl | (simp [errW_none, errW_some] <;> rfl) | (simp [*, errW_none, errW_some] <;> rfl), by (with_reducible repeat (first | apply Kd.R_alloc | apply Kd.R_drewN | apply Kd.R_drew)); exact HO813.out, by repeat (first | (with_reducible first | exact HB.out | apply below_alloc | apply pw_below_drewN | apply below_drew1) | exact HB.out)⟩
 ·
  rw [if_neg c2] at H
  have c2b0 : (a0 == 0) = false := beq_eq_false_iff_ne.mpr c2
  have c2b1 : (a0 != 0) = true := bne_iff_ne.mpr c2
  by_cases c5 : a0 = 1
  ·
   rw [if_pos c5] at H
   have c5b0 : (a0 == 1) = true := beq_iff_eq.mpr c5
   have c5b1 : (a0 != 1) = false := bne_eq_false_iff_eq.mpr c5
   clear c5
   obtain ⟨y814, hy814⟩ : ∃ y_ : List (S38), y_ = (([(⟨4, 0, 0, 1⟩ : S38), (⟨0, 0, 0, (-1)⟩ : S38), (⟨0, 1, 0, 1⟩ : S38), (⟨4, 1, 2, 1⟩ : S38)] : List (S38))) := ⟨_, rfl⟩
   replace H : (some (y814, true)) = some (r1, r2) := by first | (rw [hy814]; with_reducible exact H) | (have H2_ := (Option.bind_some _ _).symm.trans H; rw [hy814]; with_reducible exact H2_) | (have H2_ := (Option.bind_some _ _).symm.trans H; with_reducible exact H2_) | with_reducible exact H | (rw [hy814]; exact H) | exact H
   have Ny814 := Aside0.mk hy814
   clear hy814
   simp only [Option.some.injEq, Prod.mk.injEq] at H
   obtain ⟨rfl, rfl⟩ := H
   go_enter Try.func47, Try.ntmps47
   go_wp2_with (first | ((with_reducible refine gate_dst (N := 18) rfl ?_); refine Kd.R_lit k38 _ 38 ?hg (N := 18) ?hd (xs := ([(⟨4, 0, 0, 1⟩ : S38), (⟨0, 0, 0, (-1)⟩ : S38), (⟨0, 1, 0, 1⟩ : S38), (⟨4, 1, 2, 1⟩ : S38)] : List (S38))) (inner := [.int .i64 4, .int .i64 0, .int .i64 0, .int .i64 1, .int .i64 0, .int .i64 0, .int .i64 0, .int .i64 (-1), .int .i64 0, .int .i64 1, .int .i64 0, .int .i64 1, .int .i64 4, .int .i64 1, .int .i64 2, .int .i64 1]) (ok := fun _ => True) (okp := fun _ => True) ?hr ?hp (fun _ hk => hk) trivial (Below.refl _ _) (Nat.le_refl _) (by simp) ?_; (case hd => rfl); (case hg => rfl); (case hr => first | (go_simp; done) | (go_simp; rfl)); (case hp => exact (Reps.c4 (show Kd.M k38 _ _ _ (⟨4, 0, 0, 1⟩ : S38) [.int .i64 4, .int .i64 0, .int .i64 0, .int .i64 1] from (k38_mkM _ _ _ (⟨4, 0, 0, 1⟩ : S38) )) (Reps.c4 (show Kd.M k38 _ _ _ (⟨0, 0, 0, (-1)⟩ : S38) [.int .i64 0, .int .i64 0, .int .i64 0, .int .i64 (-1)] from (k38_mkM _ _ _ (⟨0, 0, 0, (-1)⟩ : S38) )) (Reps.c4 (show Kd.M k38 _ _ _ (⟨0, 1, 0, 1⟩ : S38) [.int .i64 0, .int .i64 1, .int .i64 0, .int .i64 1] from (k38_mkM _ _ _ (⟨0, 1, 0, 1⟩ : S38) )) (Reps.c4 (show Kd.M k38 _ _ _ (⟨4, 1, 2, 1⟩ : S38) [.int .i64 4, .int .i64 1, .int .i64 2, .int .i64 1] from (k38_mkM _ _ _ (⟨4, 1, 2, 1⟩ : S38) )) (Reps.none _ _)))))); intro v815 w6 ho7 hb hg_ hnew_; clear hg_ hnew_; (first | rw [← Ny814.out] at ho7 | (simp only [Int.reduceToNat] at ho7; rw [← Ny814.out] at ho7)); have n0_ := Aside0.mk (Kd.R_lower ho7 (below_size (by repeat (first | (with_reducible first | exact HB.out | apply below_alloc | apply pw_below_drewN | apply below_drew1) | exact HB.out)))); have n1_ := Aside0.mk (below_step (by repeat (first | (with_reducible first | exact HB.out | apply below_alloc | apply pw_below_drewN | apply below_drew1) | exact HB.out)) hb); clear HB; have HO816 := n0_; have HB := n1_; clear n0_ n1_; clear hb ho7))
   go_ret2
   exact ⟨_, by first | rfl | (simp [errW_none, errW_some] <;> rfl) | (simp [*, errW_none, errW_some] <;> rfl), by (with_reducible repeat (first | apply Kd.R_alloc | apply Kd.R_drewN | apply Kd.R_drew)); exact HO816.out, by repeat (first | (with_reducible first | exact HB.out | apply below_alloc | apply pw_below_drewN | apply below_drew1) | exact HB.out)⟩
  ·
   rw [if_neg c5] at H
   have c5b0 : (a0 == 1) = false := beq_eq_false_iff_ne.mpr c5
   have c5b1 : (a0 != 1) = true := bne_iff_ne.mpr c5
   simp only [Option.some.injEq, Prod.mk.injEq] at H
   obtain ⟨rfl, rfl⟩ := H
   go_enter Try.func47, Try.ntmps47
   go_wp2
   go_ret2
   exact ⟨_, by first | rfl | (simp [errW_none, errW_some] <;> rfl) | (simp [*, errW_none, errW_some] <;> rfl), by first | exact Kd.R_nil _ _ _ _ _ | exact Kd.N_nil _ _ _ _ _ | exact Kd.V_nil _ _ _ _ _ | exact Kd.Q_nil _ _ _ _ _ | exact Kd.S_nil _ _ _ _ _, by repeat (first | (with_reducible first | exact HB.out | apply below_alloc | apply pw_below_drewN | apply below_drew1) | exact HB.out)⟩

end Go.Proofs.Ytmnjijobpejpgaa.P
