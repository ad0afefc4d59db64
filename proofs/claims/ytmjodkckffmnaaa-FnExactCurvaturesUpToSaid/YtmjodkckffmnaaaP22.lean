/- Written by a program of this session: for Go functions that a statement reaches, Lean functions with the same answers and the proofs that the calls come to them; conditions: none but the arguments' kinds. -/
import Derived.Test.YtmjodkckffmnaaaP0
import Derived.Test.YtmjodkckffmnaaaP1
import Derived.Test.YtmjodkckffmnaaaP2
import Derived.Test.YtmjodkckffmnaaaP3
import Derived.Test.YtmjodkckffmnaaaP11
import Derived.Test.YtmjodkckffmnaaaP12
import Derived.Test.YtmjodkckffmnaaaP13
import Derived.Test.YtmjodkckffmnaaaP21
namespace Go.Proofs.Ytmjodkckffmnaaa.P
open Go.RowKit Go.Proofs.YtmjodkckffmnaaaW.PrintWords Go.Proofs.YtmjodkckffmnaaaW.PrintLast Go.Proofs.YtmjodkckffmnaaaW.PrintMore
attribute [local go_sem] max2_int min2_int max_two min_two max_three min_three max_four min_four   -- for this text's walks alone
set_option linter.unusedVariables false
set_option linter.unusedSimpArgs false

/-! ### spec_apPath: function 83 -/
def spec_apPath.l0 : Nat → List Int → List (List Int) → Int → Option (List (List Int))
  | 0, _, _, _ => none
  | k + 1, q, out, i => if 0 ≤ i then (if (out.length : Int) ≤ 200 then ((spec_apSwap.f q i).bind fun t => ((spec_apDown.f k t).bind fun j => spec_apPath.l0 k t (out ++ [t]) j)) else some out) else some out
def spec_apPath.f (k : Nat) (l0 : List Int) : Option (List (List Int)) := (spec_l1Own.f l0).bind fun t => ((spec_apDown.f k l0).bind fun i => spec_apPath.l0 k l0 [t] i)
theorem spec_apPath.mono_l : ∀ k, (∀ y0 y1 y2, LeO (spec_apPath.l0 k y0 y1 y2) (spec_apPath.l0 (k + 1) y0 y1 y2))
  | 0 => fun _ _ _ r h => by simp [spec_apPath.l0] at h
  | k + 1 => by
    have ih0 := spec_apPath.mono_l k
    intro y0 y1 y2
    unfold spec_apPath.l0
    repeat' first
      | (with_reducible exact ih0 _ _ _)
      | (with_reducible exact spec_apDown.mono _ _)
      | (with_reducible exact LeO.refl _)
      | (with_reducible refine LeO.ite ?_ ?_)
      | (with_reducible refine LeO.bind ?_ (fun _ => ?_))
theorem spec_apPath.mono : ∀ a0 k, LeO (spec_apPath.f k a0) (spec_apPath.f (k + 1) a0) := by
  intro a0 k
  have ih0 := spec_apPath.mono_l k
  unfold spec_apPath.f
  repeat' first
      | (with_reducible exact ih0 _ _ _)
      | (with_reducible exact spec_apDown.mono _ _)
      | (with_reducible exact LeO.refl _)
      | (with_reducible refine LeO.ite ?_ ?_)
      | (with_reducible refine LeO.bind ?_ (fun _ => ?_))
set_option maxHeartbeats 8000000 in
set_option maxRecDepth 100000 in
theorem spec_apPath.calls (k : Nat) (A0 : Option Addr) (c0 : Nat) (l0 : List Int) (r : List (List Int)) (w : World) (hr0 : Kd.C (Kd.int .i64) w A0 l0.length l0) (hc0 : l0.length ≤ c0) (h : spec_apPath.f k l0 = some r) :
    Calls Try.prog 83 #[.slice A0 l0.length c0] w fun e w' => ∃ v0_ : Value, e = .returned (v0_) ∧ Kd.N (Kd.slice 3 (Kd.int .i64)) 22 w' w.heap.size (fun k_ => (w.heap.size ≤ k_)) v0_ r ∧ Below w.heap.size w w' := by
  have HR0 := Aside0.mk hr0
  have HC0 := Aside0.mk hc0
  clear hr0 hc0
  obtain ⟨t, h1, h⟩ := Option.bind_eq_some_iff.mp (show ((spec_l1Own.f l0).bind fun t => ((spec_apDown.f k l0).bind fun i => spec_apPath.l0 k l0 [t] i)) = some r from h)
  obtain ⟨i, h2, h⟩ := Option.bind_eq_some_iff.mp h
  replace h1 := Aside0.mk h1
  replace h2 := Aside0.mk h2
  replace h := Aside0.mk h
  go_enter Try.func83, Try.ntmps83
  go_wp2_with fail
  refine (spec_l1Own.calls _ _ l0 t _ HR0.out HC0.out h1.out).mono ?_
  rintro e w1 ⟨vo, rfl, ho, hb⟩
  have HO := Aside0.mk ho
  have HB1 := Aside0.mk hb
  obtain ⟨Ao, co, eo⟩ := Kd.R_slice ho
  subst eo
  clear ho hb
  go_wp2_with ((with_reducible refine gate_dst (N := 7) rfl ?_); refine S_lit1 (Kd.slice 3 (Kd.int .i64)) (w0 := w) w.heap.size 22 24 rfl (N := 7) ?hd t [.slice Ao t.length co] (fun k_ => (w.heap.size ≤ k_)) (fun k_ => some k_ = (.slice Ao t.length co : Value).ownBlock) ?hr ?aP (fun k_ hk_ => ⟨Kd.R_base HO.out k_ hk_.symm, by simp [Value.ownBlock]⟩) ?aF ?aO ?aB ?aS ?aL ?_; (case hd => rfl); (case hr => first | (go_simp; done) | (go_simp; rfl)); (case aP => exact Kd.M_row (Kd.R_tight rfl HO.out)); (case aF => exact (fun k_ hk => Nat.le_trans HB1.out.size hk)); (case aO => exact (Kd.S_nil _ _ _ _ _)); (case aB => exact HB1.out); (case aS => exact HB1.out.size); (case aL => simp); intro v2 w2 hs2 hb2 hg2 hat2; have HN := Aside0.mk (Kd.S_N hs2); have HB2 := Aside0.mk hb2; obtain ⟨An, cn, en⟩ := Kd.R_slice (Kd.S_R hs2); subst en; clear hs2 hb2 hg2 hat2)
  refine (spec_apDown.calls k _ _ l0 i _ (Kd.C_below HR0.out HB2.out) HC0.out h2.out).mono ?_
  rintro e w3 ⟨rfl, hb3⟩
  have HN3 := Aside0.mk (Kd.N_below HN.out hb3)
  have HB3 := Aside0.mk (below_step HB2.out hb3)
  have HV3 := Aside0.mk (show Kd.V (Kd.int .i64) 3 w3 w.heap.size (fun k_ => some k_ ≠ (.slice An ([] ++ [t] : List (List Int)).length cn : Value).ownBlock) (.slice A0 l0.length c0) l0 from Kd.V_mono (Kd.V_mk HC0.out (Kd.F_below (Kd.C_F (Kd.heap_int .i64) HR0.out) HB3.out)) (fun k_ hk e_ => absurd (Kd.N_base HN3.out k_ e_.symm) (by omega)))
  clear HN HB1 HB2 HO hb3
  go_wp2
  go_loopg [0, 3, 4] k (fun kq v0 v3 v4 wr => ∃ (q : List Int) (out : List (List Int)) (j : Int), v4 = .int .i64 j ∧ Aside0 (spec_apPath.l0 kq q out j = some r) ∧ Aside0 (Kd.N (Kd.slice 3 (Kd.int .i64)) 22 wr w.heap.size (fun k_ => (w.heap.size ≤ k_)) v3 out) ∧ Aside0 (Kd.V (Kd.int .i64) 3 wr w.heap.size (fun k_ => some k_ ≠ (v3 : Value).ownBlock) v0 q) ∧ Aside0 (Below w.heap.size w wr))
  case atStart => exact ⟨l0, [t], i, rfl, h, HN3, HV3, HB3⟩
  case round =>
    clear HN3 HV3 HB3 h
    obtain ⟨q, out, j, rfl, HA, HN, HV, HB⟩ := hrel
    cases gk with
    | zero => exact absurd HA.out (by simp [spec_apPath.l0])
    | succ k1 =>
      have H := HA.out
      clear HA
      simp only [spec_apPath.l0] at H
      obtain ⟨Aq, cq, eq⟩ := Kd.V_slice HV.out
      subst eq
      obtain ⟨An, cn, en⟩ := Kd.N_slice HN.out
      subst en
      by_cases c1 : 0 ≤ j
      · rw [if_pos c1] at H
        have c1b : decide (0 ≤ j) = true := decide_eq_true c1
        by_cases c2 : (out.length : Int) ≤ 200
        · rw [if_pos c2] at H
          have c2b : decide ((out.length : Int) ≤ 200) = true := decide_eq_true c2
          have c2c : decide (out.length ≤ 200) = true := decide_eq_true (by omega)
          have LM := Aside0.mk (show out.length ≤ 200 by omega)
          obtain ⟨t1, A1, H⟩ := Option.bind_eq_some_iff.mp H
          obtain ⟨j1, A2, H⟩ := Option.bind_eq_some_iff.mp H
          replace A1 := Aside0.mk A1
          replace A2 := Aside0.mk A2
          replace H := Aside0.mk H
          clear c1 c2
          go_wp2_with fail
          refine (spec_apSwap.calls _ _ q j t1 _ (Kd.V_reads' HV.out).2.2 (Kd.V_reads' HV.out).2.1 A1.out).mono ?_
          rintro e w4 ⟨vt, rfl, ht, hb4⟩
          have HN4 := Aside0.mk (Kd.N_below HN.out hb4)
          have HB4 := Aside0.mk (below_step HB.out hb4)
          have HT4 := Aside0.mk (Kd.R_mono (ok' := fun k_ => (w.heap.size ≤ k_) ∧ some k_ ≠ (.slice An out.length cn : Value).ownBlock) (Kd.R_bound (Kd.R_apart' ht (Kd.N_typed HN4.out) (by decide))) (fun k_ hk => ⟨Nat.le_trans HB.out.size hk.2.1, hk.1.2⟩))
          obtain ⟨At, ct, et⟩ := Kd.R_slice ht
          subst et
          clear HN HV HB ht hb4
          go_wp2_with (at_builtin; refine Kd.N_append (Kd.slice 3 (Kd.int .i64)) (w0 := w) w.heap.size rfl (.tmp 22) (.tmp 24) 26 22 (.slice none 0 0) 24 rfl Try.underlying26 info22 rfl (by decide) (by omega) (.slice An out.length cn) out t1 [.slice At t1.length ct] (fun k_ => (w.heap.size ≤ k_)) (fun k_ => (w.heap.size ≤ k_) ∧ some k_ ≠ (.slice An out.length cn : Value).ownBlock) rfl rfl ?aP (fun _ hk => hk) ?aF ?aO ?aB ?aS ?aL ?_; (case aP => exact Kd.FK_slice_mk (Kd.R_reads' HT4.out).2.1 (Kd.R_F HT4.out)); (case aF => exact (fun k_ hk => Nat.le_trans HB4.out.size hk)); (case aO => exact HN4.out); (case aB => exact HB4.out); (case aS => exact HB4.out.size); (case aL => have := LM.out; omega); intro v5 w5 hn5 hb5 hg5 hat5; have HV5 := Aside0.mk (Kd.V_mono (Kd.V_afterv (ok := fun k_ => (w.heap.size ≤ k_)) (v1 := v5) (Kd.R_V (base' := w.heap.size) HT4.out) hg5 hat5) (fun _ hk => hk.2)); have HN5 := Aside0.mk hn5; have HB5 := Aside0.mk hb5; obtain ⟨A5, c5, e5⟩ := Kd.N_slice hn5; subst e5; clear hn5 hb5 hg5 hat5)
          refine (spec_apDown.calls k1 _ _ t1 j1 _ (Kd.V_reads' HV5.out).2.2 (Kd.V_reads' HV5.out).2.1 A2.out).mono ?_
          rintro e w6 ⟨rfl, hb6⟩
          have HN6 := Aside0.mk (Kd.N_below HN5.out hb6)
          have HV6 := Aside0.mk (Kd.V_below HV5.out hb6)
          have HB6 := Aside0.mk (below_step HB5.out hb6)
          clear HN4 HB4 HT4 HN5 HV5 HB5 hb6
          go_wp2
          go_roundg k1
          case measure => omega
          case rel =>
            have e1 : (out ++ [t1]).length = out.length + 1 := by simp
            have q1 := HN6.out
            have q2 := HV6.out
            rw [e1] at q1 q2
            exact ⟨t1, out ++ [t1], j1, rfl, H, ⟨q1⟩, ⟨q2⟩, HB6⟩
        · rw [if_neg c2] at H
          have c2b : decide ((out.length : Int) ≤ 200) = false := decide_eq_false c2
          have c2c : decide (out.length ≤ 200) = false := decide_eq_false (by omega)
          obtain rfl := Option.some.inj H
          clear c1 c2
          go_wp2
          go_ret
          exact ⟨_, rfl, HN.out, HB.out⟩
      · rw [if_neg c1] at H
        have c1b : decide (0 ≤ j) = false := decide_eq_false c1
        obtain rfl := Option.some.inj H
        clear c1
        go_wp2
        go_ret
        exact ⟨_, rfl, HN.out, HB.out⟩

/-! ### spec_DownPath: function 44 -/
def spec_DownPath.f (k : Nat) (l0 : List Int) : Option ((List (List Int)) × Bool) := (spec_apGood.f k l0).bind fun t435 => (if t435 = true then ((spec_apPath.f k l0).bind fun t436 => (if (t436.length : Int) > 200 then (some (([] : List (List Int)), false)) else (some (t436, true)))) else (some (([] : List (List Int)), false)))
theorem spec_DownPath.mono : ∀ a0 k, LeO (spec_DownPath.f k a0) (spec_DownPath.f (k + 1) a0) := by
  intro a0 k
  unfold spec_DownPath.f
  repeat' first
      | (with_reducible exact spec_apGood.mono _ _)
      | (with_reducible exact spec_apPath.mono _ _)
      | (with_reducible exact LeO.refl _)
      | (with_reducible exact LeO.none _)
      | (with_reducible refine LeO.ite ?_ ?_)
      | (with_reducible refine LeO.bind ?_ (fun _ => ?_))
      | exact spec_apGood.mono _ _
      | exact spec_apPath.mono _ _
      | exact LeO.none _
      | refine LeO.ite ?_ ?_
      | refine LeO.bind ?_ (fun _ => ?_)
set_option maxHeartbeats 8000000 in
set_option maxRecDepth 100000 in
theorem spec_DownPath.calls (k : Nat) (A0 : Option Addr) (c0 : Nat) (l0 : List Int) (r1 : List (List Int)) (r2 : Bool) (w : World) (hr0 : Kd.C (Kd.int .i64) w A0 l0.length l0) (hc0 : l0.length ≤ c0) (h : spec_DownPath.f k l0 = some (r1, r2)) :
    Calls Try.prog 44 #[.slice A0 l0.length c0] w fun e w' => ∃ v0_ : Value, e = .returned (.tuple #[v0_, .bool r2]) ∧ Kd.N (Kd.slice 3 (Kd.int .i64)) 22 w' w.heap.size (fun k_ => (w.heap.size ≤ k_)) v0_ r1 ∧ Below w.heap.size w w' := by
  have HR0 := Aside0.mk hr0
  have HC0 := Aside0.mk hc0
  clear hr0 hc0
  have HB := Aside0.mk (Below.refl w.heap.size w)
  have H : ((spec_apGood.f k l0).bind fun t435 => (if t435 = true then ((spec_apPath.f k l0).bind fun t436 => (if (t436.length : Int) > 200 then (some (([] : List (List Int)), false)) else (some (t436, true)))) else (some (([] : List (List Int)), false)))) = some (r1, r2) := h
  clear h
  replace H := Option.bind_eq_some_iff.mp H
  obtain ⟨t435, A20, H⟩ := H
  replace H : (if t435 = true then ((spec_apPath.f k l0).bind fun t436 => (if (t436.length : Int) > 200 then (some (([] : List (List Int)), false)) else (some (t436, true)))) else (some (([] : List (List Int)), false))) = some (r1, r2) := H
  have A2 := Aside0.mk A20
  clear A20
  by_cases c3 : t435 = true
  · subst c3
    have H1 : ((spec_apPath.f k l0).bind fun t436 => (if (t436.length : Int) > 200 then (some (([] : List (List Int)), false)) else (some (t436, true)))) = some (r1, r2) := by rw [if_pos rfl] at H; exact H
    clear H
    have H := H1
    clear H1
    replace H := Option.bind_eq_some_iff.mp H
    obtain ⟨t436, A40, H⟩ := H
    replace H : (if (t436.length : Int) > 200 then (some (([] : List (List Int)), false)) else (some (t436, true))) = some (r1, r2) := H
    have A4 := Aside0.mk A40
    clear A40
    by_cases c5 : (t436.length : Int) > 200
    · rw [if_pos c5] at H
      have c5b0 : decide (200 < (t436.length : Int)) = true := decide_eq_true c5
      have c5b1 : decide (200 < t436.length) = true := decide_eq_true (by omega)
      clear c5
      simp only [Option.some.injEq, Prod.mk.injEq] at H
      obtain ⟨rfl, rfl⟩ := H
      go_enter Try.func44, Try.ntmps44
      go_wp2_with (first | ((with_reducible refine gate_callee (f := 61) rfl ?_); refine goesL_ (some 6) rfl rfl Try.func61 (by kernel_rfl) rfl #[.slice A0 l0.length c0] rfl (by (try simp only [List.map_toArray, List.map_cons, List.map_nil]); first | done | rfl | (simp only [List.length_drop, List.length_take]; rfl)) ?_; (with_reducible refine (spec_apGood.calls k _ _ l0 true _ ?side1 ?side2 A2.out).mono ?_); (case side1 => repeat (first | exact HR0.out | (with_reducible refine Kd.C_alloc ?_ _) | (with_reducible refine Kd.C_drewN ?_ _) | (with_reducible refine Kd.C_drew ?_))); (case side2 => exact HC0.out); rintro e w' ⟨rfl, ⟨nd, rfl⟩⟩; refine ⟨_, rfl, ?_⟩) | ((with_reducible refine gate_callee (f := 83) rfl ?_); refine goesL_ (some 9) rfl rfl Try.func83 (by kernel_rfl) rfl #[.slice A0 l0.length c0] rfl (by (try simp only [List.map_toArray, List.map_cons, List.map_nil]); first | done | rfl | (simp only [List.length_drop, List.length_take]; rfl)) ?_; (with_reducible refine (spec_apPath.calls k _ _ l0 t436 _ ?side1 ?side2 A4.out).mono ?_); (case side1 => repeat (first | exact HR0.out | (with_reducible refine Kd.C_alloc ?_ _) | (with_reducible refine Kd.C_drewN ?_ _) | (with_reducible refine Kd.C_drew ?_))); (case side2 => exact HC0.out); rintro e w6 ⟨v437, rfl, ho0, hb⟩; refine ⟨_, rfl, ?_⟩; have n0_ := Aside0.mk (Kd.N_lower (Kd.N_mono (ok' := fun k_ => (w.heap.size ≤ k_)) ho0 (fun k_ hk_ => (Nat.le_trans (below_size (by repeat (first | (with_reducible first | exact HB.out | apply below_alloc | apply pw_below_drewN | apply below_drew1) | exact HB.out))) hk_))) (below_size (by repeat (first | (with_reducible first | exact HB.out | apply below_alloc | apply pw_below_drewN | apply below_drew1) | exact HB.out)))); have n1_ := Aside0.mk (below_step (by repeat (first | (with_reducible first | exact HB.out | apply below_alloc | apply pw_below_drewN | apply below_drew1) | exact HB.out)) hb); clear HB; have HO438 := n0_; have HB := n1_; clear n0_ n1_; (try clear hb); (try clear hb2); (try clear hk); (try clear hi); (try clear ho0); obtain ⟨Ao7, co7, eo7⟩ := Kd.N_slice HO438.out; subst eo7))
      go_ret2
      exact ⟨_, by first | rfl | (simp [errW_none, errW_some] <;> rfl) | (simp [*, errW_none, errW_some] <;> rfl), by first | exact Kd.S_nil _ _ _ _ _ | exact Kd.N_nil _ _ _ _ _ | exact Kd.V_nil _ _ _ _ _ | exact Kd.Q_nil _ _ _ _ _ | exact Kd.R_nil _ _ _ _ _, by repeat (first | (with_reducible first | exact HB.out | apply below_alloc | apply pw_below_drewN | apply below_drew1) | exact HB.out)⟩
    · rw [if_neg c5] at H
      have c5b0 : decide (200 < (t436.length : Int)) = false := decide_eq_false c5
      have c5b1 : decide (200 < t436.length) = false := decide_eq_false (by omega)
      clear c5
      simp only [Option.some.injEq, Prod.mk.injEq] at H
      obtain ⟨rfl, rfl⟩ := H
      go_enter Try.func44, Try.ntmps44
      go_wp2_with (first | ((with_reducible refine gate_callee (f := 61) rfl ?_); refine goesL_ (some 6) rfl rfl Try.func61 (by kernel_rfl) rfl #[.slice A0 l0.length c0] rfl (by (try simp only [List.map_toArray, List.map_cons, List.map_nil]); first | done | rfl | (simp only [List.length_drop, List.length_take]; rfl)) ?_; (with_reducible refine (spec_apGood.calls k _ _ l0 true _ ?side1 ?side2 A2.out).mono ?_); (case side1 => repeat (first | exact HR0.out | (with_reducible refine Kd.C_alloc ?_ _) | (with_reducible refine Kd.C_drewN ?_ _) | (with_reducible refine Kd.C_drew ?_))); (case side2 => exact HC0.out); rintro e w' ⟨rfl, ⟨nd, rfl⟩⟩; refine ⟨_, rfl, ?_⟩) | ((with_reducible refine gate_callee (f := 83) rfl ?_); refine goesL_ (some 9) rfl rfl Try.func83 (by kernel_rfl) rfl #[.slice A0 l0.length c0] rfl (by (try simp only [List.map_toArray, List.map_cons, List.map_nil]); first | done | rfl | (simp only [List.length_drop, List.length_take]; rfl)) ?_; (with_reducible refine (spec_apPath.calls k _ _ l0 t436 _ ?side1 ?side2 A4.out).mono ?_); (case side1 => repeat (first | exact HR0.out | (with_reducible refine Kd.C_alloc ?_ _) | (with_reducible refine Kd.C_drewN ?_ _) | (with_reducible refine Kd.C_drew ?_))); (case side2 => exact HC0.out); rintro e w8 ⟨v437, rfl, ho0, hb⟩; refine ⟨_, rfl, ?_⟩; have n0_ := Aside0.mk (Kd.N_lower (Kd.N_mono (ok' := fun k_ => (w.heap.size ≤ k_)) ho0 (fun k_ hk_ => (Nat.le_trans (below_size (by repeat (first | (with_reducible first | exact HB.out | apply below_alloc | apply pw_below_drewN | apply below_drew1) | exact HB.out))) hk_))) (below_size (by repeat (first | (with_reducible first | exact HB.out | apply below_alloc | apply pw_below_drewN | apply below_drew1) | exact HB.out)))); have n1_ := Aside0.mk (below_step (by repeat (first | (with_reducible first | exact HB.out | apply below_alloc | apply pw_below_drewN | apply below_drew1) | exact HB.out)) hb); clear HB; have HO438 := n0_; have HB := n1_; clear n0_ n1_; (try clear hb); (try clear hb2); (try clear hk); (try clear hi); (try clear ho0); obtain ⟨Ao9, co9, eo9⟩ := Kd.N_slice HO438.out; subst eo9))
      go_ret2
      exact ⟨_, by first | rfl | (simp [errW_none, errW_some] <;> rfl) | (simp [*, errW_none, errW_some] <;> rfl), by (with_reducible repeat (first | apply Kd.N_alloc | apply Kd.N_drewN | apply Kd.N_drew)); exact HO438.out, by repeat (first | (with_reducible first | exact HB.out | apply below_alloc | apply pw_below_drewN | apply below_drew1) | exact HB.out)⟩
  · replace c3 := Bool.eq_false_iff.mpr c3
    subst c3
    have H1 : (some (([] : List (List Int)), false)) = some (r1, r2) := by rw [if_neg (show ¬ (false = true) by decide)] at H; exact H
    clear H
    have H := H1
    clear H1
    simp only [Option.some.injEq, Prod.mk.injEq] at H
    obtain ⟨rfl, rfl⟩ := H
    go_enter Try.func44, Try.ntmps44
    go_wp2_with (first | ((with_reducible refine gate_callee (f := 61) rfl ?_); refine goesL_ (some 6) rfl rfl Try.func61 (by kernel_rfl) rfl #[.slice A0 l0.length c0] rfl (by (try simp only [List.map_toArray, List.map_cons, List.map_nil]); first | done | rfl | (simp only [List.length_drop, List.length_take]; rfl)) ?_; (with_reducible refine (spec_apGood.calls k _ _ l0 false _ ?side1 ?side2 A2.out).mono ?_); (case side1 => repeat (first | exact HR0.out | (with_reducible refine Kd.C_alloc ?_ _) | (with_reducible refine Kd.C_drewN ?_ _) | (with_reducible refine Kd.C_drew ?_))); (case side2 => exact HC0.out); rintro e w' ⟨rfl, ⟨nd, rfl⟩⟩; refine ⟨_, rfl, ?_⟩))
    go_ret2
    exact ⟨_, by first | rfl | (simp [errW_none, errW_some] <;> rfl) | (simp [*, errW_none, errW_some] <;> rfl), by first | exact Kd.S_nil _ _ _ _ _ | exact Kd.N_nil _ _ _ _ _ | exact Kd.V_nil _ _ _ _ _ | exact Kd.Q_nil _ _ _ _ _ | exact Kd.R_nil _ _ _ _ _, by repeat (first | (with_reducible first | exact HB.out | apply below_alloc | apply pw_below_drewN | apply below_drew1) | exact HB.out)⟩

end Go.Proofs.Ytmjodkckffmnaaa.P
