/- Written by a program of this session: for Go functions that a statement reaches, Lean functions with the same answers and the proofs that the calls come to them; conditions: none but the arguments' kinds. -/
import Derived.Test.YtgigkjcfnngdmaaP0
import Derived.Test.YtgigkjcfnngdmaaP6
import Derived.Test.YtgigkjcfnngdmaaP10
import Derived.Test.YtgigkjcfnngdmaaP11
import Derived.Test.YtgigkjcfnngdmaaP12
import Derived.Test.YtgigkjcfnngdmaaP13
import Derived.Test.YtgigkjcfnngdmaaP17
import Derived.Test.YtgigkjcfnngdmaaP21
import Derived.Test.YtgigkjcfnngdmaaP22
namespace Go.Proofs.Ytgigkjcfnngdmaa.P
open Go.RowKit Go.Proofs.YtgigkjcfnngdmaaW.PrintWords Go.Proofs.YtgigkjcfnngdmaaW.PrintLast Go.Proofs.YtgigkjcfnngdmaaW.PrintMore
attribute [local go_sem] max2_int min2_int max_two min_two max_three min_three max_four min_four   -- for this text's walks alone
set_option linter.unusedVariables false
set_option linter.unusedSimpArgs false

/-! ### spec_ClassesUpTo: function 49 -/
def spec_ClassesUpTo.f (k : Nat) (a0 : Int) (a1 : Int) (a2 : Int) : Option ((List (List Int)) × Bool) := (spec_juTask.f a0 a1 a2).bind fun t382 => (if t382 = true then ((spec_juUpTo.f k a0 a1 a2 true).bind fun t383 => (if (t383.length : Int) > 1000 then (some (([] : List (List Int)), false)) else (some (t383, true)))) else (some (([] : List (List Int)), false)))
theorem spec_ClassesUpTo.mono : ∀ a0 a1 a2 k, LeO (spec_ClassesUpTo.f k a0 a1 a2) (spec_ClassesUpTo.f (k + 1) a0 a1 a2) := by
  intro a0 a1 a2 k
  unfold spec_ClassesUpTo.f
  repeat' first
      | (with_reducible exact spec_juUpTo.mono _ _ _ _ _)
      | (with_reducible exact LeO.refl _)
      | (with_reducible exact LeO.none _)
      | (with_reducible refine LeO.ite ?_ ?_)
      | (with_reducible refine LeO.bind ?_ (fun _ => ?_))
      | exact spec_juUpTo.mono _ _ _ _ _
      | exact LeO.none _
      | refine LeO.ite ?_ ?_
      | refine LeO.bind ?_ (fun _ => ?_)
set_option maxHeartbeats 8000000 in
set_option maxRecDepth 100000 in
theorem spec_ClassesUpTo.calls (k : Nat) (a0 : Int) (a1 : Int) (a2 : Int) (r1 : List (List Int)) (r2 : Bool) (w : World) (h : spec_ClassesUpTo.f k a0 a1 a2 = some (r1, r2)) :
    Calls Try.prog 49 #[.int .i64 a0, .int .i64 a1, .int .i64 a2] w fun e w' => ∃ v0_ : Value, e = .returned (.tuple #[v0_, .bool r2]) ∧ Kd.S (Kd.slice 3 (Kd.int .i64)) 44 w' w.heap.size (fun _ => True) v0_ r1 ∧ Below w.heap.size w w' := by
  have HB := Aside0.mk (Below.refl w.heap.size w)
  have H : ((spec_juTask.f a0 a1 a2).bind fun t382 => (if t382 = true then ((spec_juUpTo.f k a0 a1 a2 true).bind fun t383 => (if (t383.length : Int) > 1000 then (some (([] : List (List Int)), false)) else (some (t383, true)))) else (some (([] : List (List Int)), false)))) = some (r1, r2) := h
  clear h
  replace H := Option.bind_eq_some_iff.mp H
  obtain ⟨t382, A40, H⟩ := H
  replace H : (if t382 = true then ((spec_juUpTo.f k a0 a1 a2 true).bind fun t383 => (if (t383.length : Int) > 1000 then (some (([] : List (List Int)), false)) else (some (t383, true)))) else (some (([] : List (List Int)), false))) = some (r1, r2) := H
  have A4 := Aside0.mk A40
  clear A40
  by_cases c5 : t382 = true
  · subst c5
    have H1 : ((spec_juUpTo.f k a0 a1 a2 true).bind fun t383 => (if (t383.length : Int) > 1000 then (some (([] : List (List Int)), false)) else (some (t383, true)))) = some (r1, r2) := by rw [if_pos rfl] at H; exact H
    clear H
    have H := H1
    clear H1
    replace H := Option.bind_eq_some_iff.mp H
    obtain ⟨t383, A60, H⟩ := H
    replace H : (if (t383.length : Int) > 1000 then (some (([] : List (List Int)), false)) else (some (t383, true))) = some (r1, r2) := H
    have A6 := Aside0.mk A60
    clear A60
    by_cases c7 : (t383.length : Int) > 1000
    · rw [if_pos c7] at H
      have c7b0 : decide (1000 < (t383.length : Int)) = true := decide_eq_true c7
      have c7b1 : decide (1000 < t383.length) = true := decide_eq_true (by omega)
      clear c7
      simp only [Option.some.injEq, Prod.mk.injEq] at H
      obtain ⟨rfl, rfl⟩ := H
      go_enter Try.func49, Try.ntmps49
      go_wp2_with (first | ((with_reducible refine gate_callee (f := 63) rfl ?_); refine goesL_ (some 12) rfl rfl Try.func63 (by kernel_rfl) rfl #[.int .i64 a0, .int .i64 a1, .int .i64 a2] rfl (by (try simp only [List.map_toArray, List.map_cons, List.map_nil]); first | done | rfl | (simp only [List.length_drop, List.length_take]; rfl)) ?_; (with_reducible refine (spec_juTask.calls a0 a1 a2 true _ A4.out).mono ?_); rintro e w' ⟨rfl, ⟨nd, rfl⟩⟩; refine ⟨_, rfl, ?_⟩) | ((with_reducible refine gate_callee (f := 65) rfl ?_); refine goesL_ (some 17) rfl rfl Try.func65 (by kernel_rfl) rfl #[.int .i64 a0, .int .i64 a1, .int .i64 a2, .bool true] rfl (by (try simp only [List.map_toArray, List.map_cons, List.map_nil]); first | done | rfl | (simp only [List.length_drop, List.length_take]; rfl)) ?_; (with_reducible refine (spec_juUpTo.calls k a0 a1 a2 true t383 _ A6.out).mono ?_); rintro e w8 ⟨v384, rfl, ho0, hb⟩; refine ⟨_, rfl, ?_⟩; have n0_ := Aside0.mk (Kd.S_lower ho0 (below_size (by repeat (first | (with_reducible first | exact HB.out | apply below_alloc | apply pw_below_drewN | apply below_drew1) | exact HB.out)))); have n1_ := Aside0.mk (below_step (by repeat (first | (with_reducible first | exact HB.out | apply below_alloc | apply pw_below_drewN | apply below_drew1) | exact HB.out)) hb); clear HB; have HO385 := n0_; have HB := n1_; clear n0_ n1_; (try clear hb); (try clear hb2); (try clear hk); (try clear hi); (try clear ho0); obtain ⟨Ao9, co9, eo9⟩ := Kd.S_slice HO385.out; subst eo9))
      go_ret2
      exact ⟨_, by first | rfl | (simp [errW_none, errW_some] <;> rfl) | (simp [*, errW_none, errW_some] <;> rfl), by first | exact Kd.S_nil _ _ _ _ _ | exact Kd.N_nil _ _ _ _ _ | exact Kd.V_nil _ _ _ _ _ | exact Kd.Q_nil _ _ _ _ _ | exact Kd.R_nil _ _ _ _ _, by repeat (first | (with_reducible first | exact HB.out | apply below_alloc | apply pw_below_drewN | apply below_drew1) | exact HB.out)⟩
    · rw [if_neg c7] at H
      have c7b0 : decide (1000 < (t383.length : Int)) = false := decide_eq_false c7
      have c7b1 : decide (1000 < t383.length) = false := decide_eq_false (by omega)
      clear c7
      simp only [Option.some.injEq, Prod.mk.injEq] at H
      obtain ⟨rfl, rfl⟩ := H
      go_enter Try.func49, Try.ntmps49
      go_wp2_with (first | ((with_reducible refine gate_callee (f := 63) rfl ?_); refine goesL_ (some 12) rfl rfl Try.func63 (by kernel_rfl) rfl #[.int .i64 a0, .int .i64 a1, .int .i64 a2] rfl (by (try simp only [List.map_toArray, List.map_cons, List.map_nil]); first | done | rfl | (simp only [List.length_drop, List.length_take]; rfl)) ?_; (with_reducible refine (spec_juTask.calls a0 a1 a2 true _ A4.out).mono ?_); rintro e w' ⟨rfl, ⟨nd, rfl⟩⟩; refine ⟨_, rfl, ?_⟩) | ((with_reducible refine gate_callee (f := 65) rfl ?_); refine goesL_ (some 17) rfl rfl Try.func65 (by kernel_rfl) rfl #[.int .i64 a0, .int .i64 a1, .int .i64 a2, .bool true] rfl (by (try simp only [List.map_toArray, List.map_cons, List.map_nil]); first | done | rfl | (simp only [List.length_drop, List.length_take]; rfl)) ?_; (with_reducible refine (spec_juUpTo.calls k a0 a1 a2 true t383 _ A6.out).mono ?_); rintro e w10 ⟨v384, rfl, ho0, hb⟩; refine ⟨_, rfl, ?_⟩; have n0_ := Aside0.mk (Kd.S_lower ho0 (below_size (by repeat (first | (with_reducible first | exact HB.out | apply below_alloc | apply pw_below_drewN | apply below_drew1) | exact HB.out)))); have n1_ := Aside0.mk (below_step (by repeat (first | (with_reducible first | exact HB.out | apply below_alloc | apply pw_below_drewN | apply below_drew1) | exact HB.out)) hb); clear HB; have HO385 := n0_; have HB := n1_; clear n0_ n1_; (try clear hb); (try clear hb2); (try clear hk); (try clear hi); (try clear ho0); obtain ⟨Ao11, co11, eo11⟩ := Kd.S_slice HO385.out; subst eo11))
      go_ret2
      exact ⟨_, by first | rfl | (simp [errW_none, errW_some] <;> rfl) | (simp [*, errW_none, errW_some] <;> rfl), by (with_reducible repeat (first | apply Kd.S_alloc | apply Kd.S_drewN | apply Kd.S_drew)); exact HO385.out, by repeat (first | (with_reducible first | exact HB.out | apply below_alloc | apply pw_below_drewN | apply below_drew1) | exact HB.out)⟩
  · replace c5 := Bool.eq_false_iff.mpr c5
    subst c5
    have H1 : (some (([] : List (List Int)), false)) = some (r1, r2) := by rw [if_neg (show ¬ (false = true) by decide)] at H; exact H
    clear H
    have H := H1
    clear H1
    simp only [Option.some.injEq, Prod.mk.injEq] at H
    obtain ⟨rfl, rfl⟩ := H
    go_enter Try.func49, Try.ntmps49
    go_wp2_with (first | ((with_reducible refine gate_callee (f := 63) rfl ?_); refine goesL_ (some 12) rfl rfl Try.func63 (by kernel_rfl) rfl #[.int .i64 a0, .int .i64 a1, .int .i64 a2] rfl (by (try simp only [List.map_toArray, List.map_cons, List.map_nil]); first | done | rfl | (simp only [List.length_drop, List.length_take]; rfl)) ?_; (with_reducible refine (spec_juTask.calls a0 a1 a2 false _ A4.out).mono ?_); rintro e w' ⟨rfl, ⟨nd, rfl⟩⟩; refine ⟨_, rfl, ?_⟩))
    go_ret2
    exact ⟨_, by first | rfl | (simp [errW_none, errW_some] <;> rfl) | (simp [*, errW_none, errW_some] <;> rfl), by first | exact Kd.S_nil _ _ _ _ _ | exact Kd.N_nil _ _ _ _ _ | exact Kd.V_nil _ _ _ _ _ | exact Kd.Q_nil _ _ _ _ _ | exact Kd.R_nil _ _ _ _ _, by repeat (first | (with_reducible first | exact HB.out | apply below_alloc | apply pw_below_drewN | apply below_drew1) | exact HB.out)⟩

-- NOT PRINTED: function 70 (impl_ClassesUpTo_1)

/-! ### impl_ClassesUpTo: function 50 -/
/-- Does no jump lead down from a pair? -/
def lstB (k x y : Int) : Bool := !((impl_jumpDown.f x y k).getD (0, 0, false)).2.2
theorem jumpDown_some (x y k : Int) : ∃ a b, impl_jumpDown.f x y k = some (a, b, !lstB k x y) := by
  have h : ∃ r, impl_jumpDown.f x y k = some r := by
    unfold impl_jumpDown.f
    repeat' (first | exact ⟨_, rfl⟩ | split)
  obtain ⟨r, h⟩ := h
  unfold lstB
  rw [h]
  exact ⟨r.1, r.2.1, by simp⟩
def impl_ClassesUpTo.f (a0 a1 a2 : Int) : Option (List (List Int) × Bool) := some (pbR (lstB a0) a0 a1 a2)
set_option maxHeartbeats 8000000 in
set_option maxRecDepth 100000 in
theorem impl_ClassesUpTo.asks (k x y : Int) (b : Nat) (W : World) (hc : W.cell? ⟨b, 0, none⟩ = some (.int .i64 k)) : Calls Try.prog 70 (#[.int .i64 x, .int .i64 y] ++ #[.pointer (some ⟨b, 0, none⟩)]) W fun e w' => e = .returned (.bool (lstB k x y)) ∧ Below W.heap.size W w' := by
  obtain ⟨p, q, h⟩ := jumpDown_some x y k
  have HJ := Aside0.mk h
  clear h
  generalize lstB k x y = t at HJ
  go_enter Try.func70, Try.ntmps70
  go_wp2_with fail
  refine (impl_jumpDown.calls x y k p q (!t) _ HJ.out).mono ?_
  rintro e w' ⟨rfl, hb⟩
  replace hb : Below W.heap.size W w' := by first | exact hb | exact hb.below
  replace hb := Aside0.mk hb
  go_wp2
  go_ret
  exact ⟨by first | rfl | simp, hb.out⟩
set_option maxHeartbeats 8000000 in
set_option maxRecDepth 100000 in
theorem impl_ClassesUpTo.calls (a0 a1 a2 : Int) (r1 : List (List Int)) (r2 : Bool) (w : World) (h : impl_ClassesUpTo.f a0 a1 a2 = some (r1, r2)) :
    Calls Try.prog 50 #[.int .i64 a0, .int .i64 a1, .int .i64 a2] w fun e w' => ∃ v0_ : Value, e = .returned (.tuple #[v0_, .bool r2]) ∧ Kd.S (Kd.slice 3 (Kd.int .i64)) 44 w' w.heap.size (fun _ => True) v0_ r1 ∧ Below w.heap.size w w' := by
  have h' : (r1, r2) = pbR (lstB a0) a0 a1 a2 := (Option.some.inj h).symm
  have e1 : r1 = (pbR (lstB a0) a0 a1 a2).1 := by rw [← h']
  have e2 : r2 = (pbR (lstB a0) a0 a1 a2).2 := by rw [← h']
  have eg := enters_of Try.func70 (by kernel_rfl) rfl
  have hc0 : (w.alloc (.cells #[.int .i64 a0] 3)).cell? ⟨w.heap.size, 0, none⟩ = some (.int .i64 a0) := by go_simp
  have HC := Aside0.mk (impl_pairsBy.calls 70 #[.pointer (some ⟨w.heap.size, 0, none⟩)] eg (lstB a0) a0 a1 a2 (w.alloc (.cells #[.int .i64 a0] 3)) (fun x y W hW => impl_ClassesUpTo.asks a0 x y _ W ((hW.cell (p := ⟨w.heap.size, 0, none⟩) (by simp)).trans hc0)))
  rw [← e1, ← e2] at HC
  clear h h' e1 e2 eg hc0
  have hmf : ∀ (fn : Fn) (first cap : Array Value) (w : World), (Instr.makeFunc fn first cap).run Try.prog w = .ok (.func fn first cap) w := fun _ _ _ _ => rfl
  go_enter Try.func50, Try.ntmps50
  go_wp2_with fail
  refine HC.out.mono ?_
  rintro e w1 ⟨v, rfl, hs, hb⟩
  have HS := Aside0.mk (Kd.S_lower hs (show w.heap.size ≤ _ by simp))
  have HB := Aside0.mk (show Below w.heap.size w w1 from below_then (below_alloc (Below.refl _ _) _) (by simp) hb)
  clear hs hb
  go_wp2
  go_ret2
  exact ⟨_, rfl, HS.out, HB.out⟩

/-! ### laws_FnExactClassesUpTo: function 15 -/
def laws_FnExactClassesUpTo.Pure : Prop := ∀ (a0 : Int) (a1 : Int) (a2 : Int), (Lit.int .i64 a0).wf = true → (Lit.int .i64 a1).wf = true → (Lit.int .i64 a2).wf = true →
  ∃ k r b, spec_ClassesUpTo.f k a0 a1 a2 = some (r, b) ∧ impl_ClassesUpTo.f a0 a1 a2 = some (r, b) ∧ (r.length : Int) ≤ 9223372036854775806 ∧ (cellsOf r : Int) + 1 ≤ 4611686018427387904
set_option maxHeartbeats 8000000 in
set_option maxRecDepth 100000 in
theorem laws_FnExactClassesUpTo.walk (P : laws_FnExactClassesUpTo.Pure) (a0 : Int) (a1 : Int) (a2 : Int) (w : World) (w0_ : (Lit.int .i64 a0).wf = true) (w1_ : (Lit.int .i64 a1).wf = true) (w2_ : (Lit.int .i64 a2).wf = true) :
    Calls Try.prog 15 #[.int .i64 a0, .int .i64 a1, .int .i64 a2] w fun e w' => e = .returned (.bool true) ∧ Below w.heap.size w w' := by
  obtain ⟨k, r, b, HS0, HI0, hl, hc⟩ := P a0 a1 a2 w0_ w1_ w2_
  have HS := Aside0.mk HS0
  have HI := Aside0.mk HI0
  have HE := Aside0.mk (eqIntSS_refl r hl (by omega) (r.length + cellsOf r + 2) (by omega))
  have HM := Aside0.mk (markIntSS_f r (r.length + cellsOf r + 2) (by omega) hl hc)
  have HH := Aside0.mk (heldIntSS_f r (r.length + cellsOf r + 2) (by omega) hl hc)
  have HML := Aside0.mk (mkS_length r 1)
  have hm0 : (0 : Int) ≤ cellsOf r := by omega
  have hm1 : (cellsOf r : Int) ≤ 4611686018427387904 := by omega
  have HP := Aside0.mk P
  clear HS0 HI0 hl hc P w0_ w1_ w2_
  replace HP := Aside0.mk trivial
  generalize mkS 1 r = r2 at HM HH HML
  generalize hcc : (cellsOf r : Int) = c at HM HH hm0 hm1
  clear hcc
  go_enter Try.func15, Try.ntmps15
  go_wp2_with fail
  refine (spec_ClassesUpTo.calls k a0 a1 a2 _ _ _ HS.out).mono ?_
  rintro e w1 ⟨vw, rfl, hw1, hb1⟩
  replace hw1 := Aside0.mk (show Kd.N (Kd.slice 3 (Kd.int .i64)) 44 w1 w.heap.size (fun _ => True) vw r from by first | exact Kd.N_mono hw1 (fun _ _ => trivial) | exact Kd.N_mono (Kd.S_N hw1) (fun _ _ => trivial) | exact Kd.N_mono (Kd.R_N hw1) (fun _ _ => trivial))
  replace hb1 := Aside0.mk hb1
  obtain ⟨Aw, cw, ew⟩ := Kd.N_slice hw1.out
  subst ew
  go_wp2_with fail
  refine (impl_ClassesUpTo.calls a0 a1 a2 _ _ _ HI.out).mono ?_
  rintro e w2 ⟨vg, rfl, hw2, hb2⟩
  replace hw2 := Aside0.mk (show Kd.S (Kd.slice 3 (Kd.int .i64)) 44 w2 w1.heap.size (fun k_ => w1.heap.size ≤ k_) vg r from Kd.S_mono (Kd.S_bound hw2) (fun _ hk => hk.2.1))
  replace hb2 := Aside0.mk hb2
  obtain ⟨Ag, cg, eg⟩ := Kd.R_slice (Kd.S_R hw2.out)
  subst eg
  have heq2 := laws_eqIntSS.calls (r.length + cellsOf r + 2) Ag cg r Aw cw r true w2 (Kd.S_reads' hw2.out).2.2 (Kd.S_reads' hw2.out).2.1 (Kd.N_reads' (Kd.N_below hw1.out hb2.out)).2.2 (Kd.N_reads' hw1.out).2.1 HE.out
  go_wp2_with (go_at_call 35; refine heq2.mono ?_; rintro e w' ⟨rfl, ⟨nd, rfl⟩⟩; clear heq2)
  have hmk := laws_markIntSS.calls (r.length + cellsOf r + 2) (fun k_ => w1.heap.size ≤ k_) _ r 1 _ r2 w1 (w2.drewN nd) (pw_below_drewN hb2.out nd) (Kd.S_drewN hw2.out nd) HM.out
  refine hmk.mono ?_
  clear hmk
  rintro e w3 ⟨rfl, hw3, hb3, -⟩
  replace hw3 := Aside0.mk (show Kd.S (Kd.slice 3 (Kd.int .i64)) 44 w3 w1.heap.size (fun k_ => w1.heap.size ≤ k_) _ r2 from Kd.S_mono (Kd.S_bound hw3) (fun _ hk => hk.2.1))
  replace hb3 := Aside0.mk hb3
  clear hw2 hb2
  have hhd : ∀ W, Below w3.heap.size w3 W → Calls Try.prog 37 #[.slice Ag r.length cg, .int .i64 1] W fun e w' => e = .returned (.int .i64 (1 + c)) ∧ Drawn0 W w' := fun W hW => by
    have hS3 := Kd.S_reads' (Kd.S_below hw3.out hW)
    have hcl := laws_heldIntSS.calls (r.length + cellsOf r + 2) Ag cg r2 1 (1 + c) W hS3.2.2 (by rw [← hS3.1]; exact hS3.2.1) HH.out
    rw [← hS3.1] at hcl
    exact hcl
  replace hhd := Aside0.mk hhd
  go_wp2_with (go_at_call 37; refine (hhd.out _ (Below.refl _ _)).mono ?_; rintro e w' ⟨rfl, ⟨nd3, rfl⟩⟩)
  refine (impl_ClassesUpTo.calls a0 a1 a2 _ _ _ HI.out).mono ?_
  rintro e w4 ⟨vh, rfl, hw4, hb4⟩
  replace hb4 := Aside0.mk (show Below w3.heap.size w3 w4 from (pw_below_drewN (Below.refl _ _) nd3).trans hb4)
  replace hw4 := Aside0.mk (show Kd.N (Kd.slice 3 (Kd.int .i64)) 44 w4 _ (fun _ => True) vh r from by first | exact Kd.N_mono hw4 (fun _ _ => trivial) | exact Kd.N_mono (Kd.S_N hw4) (fun _ _ => trivial) | exact Kd.N_mono (Kd.R_N hw4) (fun _ _ => trivial))
  obtain ⟨Ah, ch, eh⟩ := Kd.N_slice hw4.out
  subst eh
  have heq4 := laws_eqIntSS.calls (r.length + cellsOf r + 2) Ah ch r Aw cw r true w4 (Kd.N_reads' hw4.out).2.2 (Kd.N_reads' hw4.out).2.1 (Kd.N_reads' (Kd.N_below (Kd.N_below hw1.out hb3.out) hb4.out)).2.2 (Kd.N_reads' hw1.out).2.1 HE.out
  go_wp2_with (first | (go_at_call 35; refine heq4.mono ?_; rintro e w' ⟨rfl, ⟨nd4, rfl⟩⟩; clear heq4) | (go_at_call 37; refine (hhd.out _ (by repeat (first | exact hb4.out | apply pw_below_drewN))).mono ?_; rintro e w' ⟨rfl, ⟨nd5, rfl⟩⟩))
  go_ret
  exact ⟨rfl, by repeat (first | exact below_then hb1.out (Nat.le_of_lt_succ (Nat.lt_succ_of_le hb1.out.size)) (below_then hb3.out hb3.out.size hb4.out) | apply pw_below_drewN)⟩

end Go.Proofs.Ytgigkjcfnngdmaa.P
