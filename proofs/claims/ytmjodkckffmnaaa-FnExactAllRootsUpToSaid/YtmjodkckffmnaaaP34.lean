/- Written by a program of this session: for Go functions that a statement reaches, Lean functions with the same answers and the proofs that the calls come to them; conditions: none but the arguments' kinds. -/
import Derived.Test.YtmjodkckffmnaaaP0
import Derived.Test.YtmjodkckffmnaaaP1
import Derived.Test.YtmjodkckffmnaaaP2
import Derived.Test.YtmjodkckffmnaaaP6
import Derived.Test.YtmjodkckffmnaaaP7
import Derived.Test.YtmjodkckffmnaaaP30
import Derived.Test.YtmjodkckffmnaaaP33
namespace Go.Proofs.Ytmjodkckffmnaaa.P
open Go.RowKit Go.Proofs.YtmjodkckffmnaaaW.PrintWords Go.Proofs.YtmjodkckffmnaaaW.PrintLast Go.Proofs.YtmjodkckffmnaaaW.PrintMore
attribute [local go_sem] max2_int min2_int max_two min_two max_three min_three max_four min_four   -- for this text's walks alone
set_option linter.unusedVariables false
set_option linter.unusedSimpArgs false

/-! ### spec_AllRootsUpTo: function 59 -/
def spec_AllRootsUpTo.l0 : Nat → Int → List (List Int) → Int → Option ((List (List Int)) × Bool)
  | 0, _, _, _ => none
  | k + 1, x0, x4, x5 => if x5 ≤ x0 then ((spec_apRoots.f k x5).bind fun t768 => (if x4.length + t768.length < 5864062014805 then (spec_AllRootsUpTo.l0 k x0 (x4 ++ t768) (wrap64 (x5 + 1))) else (none))) else (some (x4, true))
def spec_AllRootsUpTo.f (k : Nat) (a0 : Int) : Option ((List (List Int)) × Bool) := (spec_l1In.f a0 1 30).bind fun t767 => (if t767 = true then (spec_AllRootsUpTo.l0 k a0 ([] : List (List Int)) 1) else (some (([] : List (List Int)), false)))
theorem spec_AllRootsUpTo.mono_l : ∀ k, (∀ y0 y1 y2, LeO (spec_AllRootsUpTo.l0 k y0 y1 y2) (spec_AllRootsUpTo.l0 (k + 1) y0 y1 y2))
  | 0 => fun _ _ _ r h => by simp [spec_AllRootsUpTo.l0] at h
  | k + 1 => by
    have ih0 := spec_AllRootsUpTo.mono_l k
    · intro y0 y1 y2
      unfold spec_AllRootsUpTo.l0
      repeat' first
      | (with_reducible exact ih0 _ _ _)
      | (with_reducible exact spec_apRoots.mono _ _)
      | (with_reducible exact LeO.refl _)
      | (with_reducible exact LeO.none _)
      | (with_reducible refine LeO.ite ?_ ?_)
      | (with_reducible refine LeO.bind ?_ (fun _ => ?_))
      | exact ih0 _ _ _
      | exact spec_apRoots.mono _ _
      | exact LeO.none _
      | refine LeO.ite ?_ ?_
      | refine LeO.bind ?_ (fun _ => ?_)
theorem spec_AllRootsUpTo.mono : ∀ a0 k, LeO (spec_AllRootsUpTo.f k a0) (spec_AllRootsUpTo.f (k + 1) a0) := by
  intro a0 k
  have ih0 := spec_AllRootsUpTo.mono_l k
  unfold spec_AllRootsUpTo.f
  repeat' first
      | (with_reducible exact ih0 _ _ _)
      | (with_reducible exact spec_apRoots.mono _ _)
      | (with_reducible exact LeO.refl _)
      | (with_reducible exact LeO.none _)
      | (with_reducible refine LeO.ite ?_ ?_)
      | (with_reducible refine LeO.bind ?_ (fun _ => ?_))
      | exact ih0 _ _ _
      | exact spec_apRoots.mono _ _
      | exact LeO.none _
      | refine LeO.ite ?_ ?_
      | refine LeO.bind ?_ (fun _ => ?_)
set_option maxHeartbeats 8000000 in
set_option maxRecDepth 100000 in
theorem spec_AllRootsUpTo.calls (k : Nat) (a0 : Int) (r1 : List (List Int)) (r2 : Bool) (w : World) (h : spec_AllRootsUpTo.f k a0 = some (r1, r2)) :
    Calls Try.prog 59 #[.int .i64 a0] w fun e w' => ∃ v0_ : Value, e = .returned (.tuple #[v0_, .bool r2]) ∧ Kd.N (Kd.slice 3 (Kd.int .i64)) 22 w' w.heap.size (fun k_ => (w.heap.size ≤ k_)) v0_ r1 ∧ Below w.heap.size w w' := by
  have HB := Aside0.mk (Below.refl w.heap.size w)
  have H : ((spec_l1In.f a0 1 30).bind fun t767 => (if t767 = true then (spec_AllRootsUpTo.l0 k a0 ([] : List (List Int)) 1) else (some (([] : List (List Int)), false)))) = some (r1, r2) := h
  clear h
  replace H := Option.bind_eq_some_iff.mp H
  obtain ⟨t767, A20, H⟩ := H
  replace H : (if t767 = true then (spec_AllRootsUpTo.l0 k a0 ([] : List (List Int)) 1) else (some (([] : List (List Int)), false))) = some (r1, r2) := H
  have A2 := Aside0.mk A20
  clear A20
  by_cases c3 : t767 = true
  · subst c3
    have H1 : (spec_AllRootsUpTo.l0 k a0 ([] : List (List Int)) 1) = some (r1, r2) := by rw [if_pos rfl] at H; exact H
    clear H
    have H := H1
    clear H1
    have H' := Aside0.mk H
    clear H
    go_enter Try.func59, Try.ntmps59
    go_wp2_with (first | ((with_reducible refine gate_callee (f := 70) rfl ?_); refine goesL_ (some 7) rfl rfl Try.func70 (by kernel_rfl) rfl #[.int .i64 a0, .int .i64 1, .int .i64 30] rfl (by (try simp only [List.map_toArray, List.map_cons, List.map_nil]); first | done | rfl | (simp only [List.length_drop, List.length_take]; rfl)) ?_; (with_reducible refine (spec_l1In.calls a0 1 30 true _ A2.out).mono ?_); rintro e w' ⟨rfl, ⟨nd, rfl⟩⟩; refine ⟨_, rfl, ?_⟩))
    go_loopg [4, 5] k (fun kq v4 v5 w' => ∃ (x4_1 : List (List Int)) (x5_1 : Int), v5 = .int .i64 x5_1 ∧ Aside0 (spec_AllRootsUpTo.l0 kq a0 x4_1 x5_1 = some (r1, r2)) ∧ Aside0 (kq ≤ k) ∧ Aside0 (Kd.N (Kd.slice 3 (Kd.int .i64)) 22 w' w.heap.size (fun k_ => (w.heap.size ≤ k_)) v4 x4_1) ∧ Aside0 (Below w.heap.size w w'))
    case atStart => exact ⟨(([] : List (List Int))), (1), (by first | rfl | (simp; done) | (simp [*]; done)), H', ⟨Nat.le_refl _⟩, ⟨by first | exact Kd.S_nil _ _ _ _ _ | exact Kd.N_nil _ _ _ _ _ | exact Kd.V_nil _ _ _ _ _ | exact Kd.Q_nil _ _ _ _ _ | exact Kd.R_nil _ _ _ _ _⟩, ⟨by repeat (first | (with_reducible first | exact HB.out | apply below_alloc | apply pw_below_drewN | apply below_drew1) | exact HB.out)⟩⟩
    case round =>
      clear H'
      try clear p2
      try clear c3
      obtain ⟨x4_1, x5_1, rfl, HA, HK1, HO_4, HB⟩ := hrel
      cases gk with
      | zero => exact absurd HA.out (by simp [spec_AllRootsUpTo.l0])
      | succ k1 =>
        have H := HA.out
        clear HA
        simp only [spec_AllRootsUpTo.l0] at H
        by_cases c4 : x5_1 ≤ a0
        · rw [if_pos c4] at H
          have c4b0 : decide (x5_1 ≤ a0) = true := decide_eq_true c4
          clear c4
          replace H := Option.bind_eq_some_iff.mp H
          obtain ⟨t768, A50, H⟩ := H
          replace H : (if x4_1.length + t768.length < 5864062014805 then (spec_AllRootsUpTo.l0 k1 a0 (x4_1 ++ t768) (wrap64 (x5_1 + 1))) else (none)) = some (r1, r2) := H
          have A5 := Aside0.mk A50
          clear A50
          by_cases c6 : x4_1.length + t768.length < 5864062014805
          · rw [if_pos c6] at H
            have LMc6 := Aside0.mk c6
            clear c6
            obtain ⟨y771, hy771⟩ : ∃ y_ : List (List Int), y_ = (x4_1 ++ t768) := ⟨_, rfl⟩
            replace H : (spec_AllRootsUpTo.l0 k1 a0 y771 (wrap64 (x5_1 + 1))) = some (r1, r2) := by first | (rw [hy771]; with_reducible exact H) | (have H2_ := (Option.bind_some _ _).symm.trans H; rw [hy771]; with_reducible exact H2_) | (have H2_ := (Option.bind_some _ _).symm.trans H; with_reducible exact H2_) | with_reducible exact H | (rw [hy771]; exact H) | exact H
            have Ny771 := Aside0.mk hy771
            clear hy771
            have H' := Aside0.mk H
            clear H
            go_wp2_with (first | ((with_reducible refine gate_callee (f := 94) rfl ?_); refine goesL_ (some 16) rfl rfl Try.func94 (by kernel_rfl) rfl #[.int .i64 x5_1] rfl (by (try simp only [List.map_toArray, List.map_cons, List.map_nil]); first | done | rfl | (simp only [List.length_drop, List.length_take]; rfl)) ?_; (with_reducible refine (spec_apRoots.calls k1 x5_1 t768 _ A5.out).mono ?_); rintro e w7 ⟨v769, rfl, ho0, hb⟩; refine ⟨_, rfl, ?_⟩; have n0_ := Aside0.mk (Kd.N_elder' (by (with_reducible repeat (first | apply Kd.N_alloc | apply Kd.N_drewN | apply Kd.N_drew)); exact HO_4.out) (by first | exact Kd.N_base ho0 | exact Kd.S_base ho0) hb); have n1_ := Aside0.mk (Kd.N_lower (Kd.N_mono (ok' := fun k_ => (w.heap.size ≤ k_) ∧ some k_ ≠ (u4 : Value).ownBlock) (Kd.S_N (Kd.S_bound ho0)) (fun k_ hk_ => ⟨(Nat.le_trans (below_size (by repeat (first | (with_reducible first | exact HB.out | apply below_alloc | apply pw_below_drewN | apply below_drew1) | exact HB.out))) hk_.2.1), (Kd.fresh' (Kd.N_lt (by (with_reducible repeat (first | apply Kd.N_alloc | apply Kd.N_drewN | apply Kd.N_drew)); exact HO_4.out)) k_ hk_.2.1)⟩)) (below_size (by repeat (first | (with_reducible first | exact HB.out | apply below_alloc | apply pw_below_drewN | apply below_drew1) | exact HB.out)))); have n2_ := Aside0.mk (below_step (by repeat (first | (with_reducible first | exact HB.out | apply below_alloc | apply pw_below_drewN | apply below_drew1) | exact HB.out)) hb); clear HO_4; clear HB; have HO_4 := n0_; have HO770 := n1_; have HB := n2_; clear n0_ n1_ n2_; (try clear hb); (try clear hb2); (try clear hk); (try clear hi); (try clear ho0); obtain ⟨Ao9, co9, eo9⟩ := Kd.N_slice HO770.out; subst eo9) | ((with_reducible refine gate_builtin (b := .append) (xs := #[.tmp 14, .tmp 16]) rfl ?_); at_builtin; refine Kd.N_append_rows (Kd.slice 3 (Kd.int .i64)) (w0 := w) w.heap.size rfl (.tmp 14) (.tmp 16) 26 22 (.slice none 0 0) 24 rfl Try.underlying26 info22 rfl (by decide) (by omega) u4 x4_1 t768 _ _ _ (fun k_ => (w.heap.size ≤ k_)) (fun k_ => ((fun k_ => (w.heap.size ≤ k_))) k_ ∧ some k_ ≠ (u4 : Value).ownBlock) rfl rfl ?aO ?aR (fun _ hk => hk) ?aF ?aB ?aS ?aL ?_; (case aR => exact (by skip; exact Kd.N_F (Kd.N_mono (ok' := (fun k_ => ((fun k_ => (w.heap.size ≤ k_))) k_ ∧ some k_ ≠ (u4 : Value).ownBlock)) (HO770.out) (fun k_ hk => ⟨hk.1, hk.2⟩)))); (case aB => exact (by repeat (first | (with_reducible first | exact HB.out | apply below_alloc | apply pw_below_drewN | apply below_drew1) | exact HB.out))); (case aF => exact (fun k_ hk => (Nat.le_trans (below_size (by repeat (first | (with_reducible first | exact HB.out | apply below_alloc | apply pw_below_drewN | apply below_drew1) | exact HB.out))) hk))); (case aO => exact (by (with_reducible repeat (first | apply Kd.N_alloc | apply Kd.N_drewN | apply Kd.N_drew)); exact Kd.N_mono HO_4.out (fun _ hk => hk.1))); (case aS => exact (below_size (by repeat (first | (with_reducible first | exact HB.out | apply below_alloc | apply pw_below_drewN | apply below_drew1) | exact HB.out)))); (case aL => have := LMc6.out; omega); intro v772 w8 ho hb hg hat; rw [← Ny771.out] at ho; have n0_ := Aside0.mk (Kd.N_afterv (ok := (fun k_ => (w.heap.size ≤ k_))) (by (with_reducible repeat (first | apply Kd.N_alloc | apply Kd.N_drewN | apply Kd.N_drew)); exact HO770.out) hg hat); have n1_ := Aside0.mk (hb); have n2_ := Aside0.mk (ho); clear HO770; clear HB; clear HO_4; have HO770 := n0_; have HB := n1_; have HO773 := n2_; clear n0_ n1_ n2_; clear ho hb hg hat))
            go_roundg k1
            case measure => have := HK1.out; omega
            case rel => exact ⟨(y771), (wrap64 (x5_1 + 1)), (by first | rfl | (simp; done) | (simp [*]; done)), H', ⟨by have := HK1.out; omega⟩, ⟨by (with_reducible repeat (first | apply Kd.N_alloc | apply Kd.N_drewN | apply Kd.N_drew)); exact HO773.out⟩, ⟨by repeat (first | (with_reducible first | exact HB.out | apply below_alloc | apply pw_below_drewN | apply below_drew1) | exact HB.out)⟩⟩
          · rw [if_neg c6] at H
            exact absurd H (by simp)
        · rw [if_neg c4] at H
          have c4b0 : decide (x5_1 ≤ a0) = false := decide_eq_false c4
          clear c4
          simp only [Option.some.injEq, Prod.mk.injEq] at H
          obtain ⟨rfl, rfl⟩ := H
          go_wp2
          go_ret2
          exact ⟨_, by first | rfl | (simp [errW_none, errW_some] <;> rfl) | (simp [*, errW_none, errW_some] <;> rfl), by (with_reducible repeat (first | apply Kd.N_alloc | apply Kd.N_drewN | apply Kd.N_drew)); exact HO_4.out, by repeat (first | (with_reducible first | exact HB.out | apply below_alloc | apply pw_below_drewN | apply below_drew1) | exact HB.out)⟩
  · replace c3 := Bool.eq_false_iff.mpr c3
    subst c3
    have H1 : (some (([] : List (List Int)), false)) = some (r1, r2) := by rw [if_neg (show ¬ (false = true) by decide)] at H; exact H
    clear H
    have H := H1
    clear H1
    simp only [Option.some.injEq, Prod.mk.injEq] at H
    obtain ⟨rfl, rfl⟩ := H
    go_enter Try.func59, Try.ntmps59
    go_wp2_with (first | ((with_reducible refine gate_callee (f := 70) rfl ?_); refine goesL_ (some 7) rfl rfl Try.func70 (by kernel_rfl) rfl #[.int .i64 a0, .int .i64 1, .int .i64 30] rfl (by (try simp only [List.map_toArray, List.map_cons, List.map_nil]); first | done | rfl | (simp only [List.length_drop, List.length_take]; rfl)) ?_; (with_reducible refine (spec_l1In.calls a0 1 30 false _ A2.out).mono ?_); rintro e w' ⟨rfl, ⟨nd, rfl⟩⟩; refine ⟨_, rfl, ?_⟩))
    go_ret2
    exact ⟨_, by first | rfl | (simp [errW_none, errW_some] <;> rfl) | (simp [*, errW_none, errW_some] <;> rfl), by first | exact Kd.S_nil _ _ _ _ _ | exact Kd.N_nil _ _ _ _ _ | exact Kd.V_nil _ _ _ _ _ | exact Kd.Q_nil _ _ _ _ _ | exact Kd.R_nil _ _ _ _ _, by repeat (first | (with_reducible first | exact HB.out | apply below_alloc | apply pw_below_drewN | apply below_drew1) | exact HB.out)⟩

/-! ### impl_AllRootsUpTo: function 60 -/
def impl_AllRootsUpTo.l0 : Nat → Int → List (List Int) → Int → Option ((List (List Int)) × Bool)
  | 0, _, _, _ => none
  | k + 1, x0, x4, x5 => if x5 ≤ x0 then ((impl_rootsWith.f k x5).bind fun t778 => (if x4.length + t778.length < 5864062014805 then (impl_AllRootsUpTo.l0 k x0 (x4 ++ t778) (wrap64 (x5 + 1))) else (none))) else (some (x4, true))
def impl_AllRootsUpTo.f (k : Nat) (a0 : Int) : Option ((List (List Int)) × Bool) := (impl_within.f a0 1 30).bind fun t774 => (if t774 = true then (impl_AllRootsUpTo.l0 k a0 (([] : List (List Int))) 1) else (some (([] : List (List Int)), false)))
theorem impl_AllRootsUpTo.mono_l : ∀ k, (∀ y0 y1 y2, LeO (impl_AllRootsUpTo.l0 k y0 y1 y2) (impl_AllRootsUpTo.l0 (k + 1) y0 y1 y2))
  | 0 => fun _ _ _ r h => by simp [impl_AllRootsUpTo.l0] at h
  | k + 1 => by
    have ih0 := impl_AllRootsUpTo.mono_l k
    · intro y0 y1 y2
      unfold impl_AllRootsUpTo.l0
      repeat' first
      | (with_reducible exact ih0 _ _ _)
      | (with_reducible exact impl_rootsWith.mono _ _)
      | (with_reducible exact LeO.refl _)
      | (with_reducible exact LeO.none _)
      | (with_reducible refine LeO.ite ?_ ?_)
      | (with_reducible refine LeO.bind ?_ (fun _ => ?_))
      | exact ih0 _ _ _
      | exact impl_rootsWith.mono _ _
      | exact LeO.none _
      | refine LeO.ite ?_ ?_
      | refine LeO.bind ?_ (fun _ => ?_)
theorem impl_AllRootsUpTo.mono : ∀ a0 k, LeO (impl_AllRootsUpTo.f k a0) (impl_AllRootsUpTo.f (k + 1) a0) := by
  intro a0 k
  have ih0 := impl_AllRootsUpTo.mono_l k
  unfold impl_AllRootsUpTo.f
  repeat' first
      | (with_reducible exact ih0 _ _ _)
      | (with_reducible exact impl_rootsWith.mono _ _)
      | (with_reducible exact LeO.refl _)
      | (with_reducible exact LeO.none _)
      | (with_reducible refine LeO.ite ?_ ?_)
      | (with_reducible refine LeO.bind ?_ (fun _ => ?_))
      | exact ih0 _ _ _
      | exact impl_rootsWith.mono _ _
      | exact LeO.none _
      | refine LeO.ite ?_ ?_
      | refine LeO.bind ?_ (fun _ => ?_)
set_option maxHeartbeats 8000000 in
set_option maxRecDepth 100000 in
theorem impl_AllRootsUpTo.calls (k : Nat) (a0 : Int) (r1 : List (List Int)) (r2 : Bool) (w : World) (h : impl_AllRootsUpTo.f k a0 = some (r1, r2)) :
    Calls Try.prog 60 #[.int .i64 a0] w fun e w' => ∃ v0_ : Value, e = .returned (.tuple #[v0_, .bool r2]) ∧ Kd.S (Kd.slice 3 (Kd.int .i64)) 22 w' w.heap.size (fun k_ => (w.heap.size ≤ k_)) v0_ r1 ∧ Below w.heap.size w w' := by
  have HB := Aside0.mk (Below.refl w.heap.size w)
  have H : ((impl_within.f a0 1 30).bind fun t774 => (if t774 = true then (impl_AllRootsUpTo.l0 k a0 (([] : List (List Int))) 1) else (some (([] : List (List Int)), false)))) = some (r1, r2) := h
  clear h
  replace H := Option.bind_eq_some_iff.mp H
  obtain ⟨t774, A20, H⟩ := H
  replace H : (if t774 = true then (impl_AllRootsUpTo.l0 k a0 (([] : List (List Int))) 1) else (some (([] : List (List Int)), false))) = some (r1, r2) := H
  have A2 := Aside0.mk A20
  clear A20
  by_cases c3 : t774 = true
  · subst c3
    have H1 : (impl_AllRootsUpTo.l0 k a0 (([] : List (List Int))) 1) = some (r1, r2) := by rw [if_pos rfl] at H; exact H
    clear H
    have H := H1
    clear H1
    obtain ⟨y775, hy775⟩ : ∃ y_ : List (List Int), y_ = (([] : List (List Int))) := ⟨_, rfl⟩
    replace H : (impl_AllRootsUpTo.l0 k a0 y775 1) = some (r1, r2) := by first | (rw [hy775]; with_reducible exact H) | (have H2_ := (Option.bind_some _ _).symm.trans H; rw [hy775]; with_reducible exact H2_) | (have H2_ := (Option.bind_some _ _).symm.trans H; with_reducible exact H2_) | with_reducible exact H | (rw [hy775]; exact H) | exact H
    have Ny775 := Aside0.mk hy775
    clear hy775
    have H' := Aside0.mk H
    clear H
    go_enter Try.func60, Try.ntmps60
    go_wp2_with (first | ((with_reducible refine gate_callee (f := 95) rfl ?_); refine goesL_ (some 7) rfl rfl Try.func95 (by kernel_rfl) rfl #[.int .i64 a0, .int .i64 1, .int .i64 30] rfl (by (try simp only [List.map_toArray, List.map_cons, List.map_nil]); first | done | rfl | (simp only [List.length_drop, List.length_take]; rfl)) ?_; (with_reducible refine (impl_within.calls a0 1 30 true _ A2.out).mono ?_); rintro e w' ⟨rfl, ⟨nd, rfl⟩⟩; refine ⟨_, rfl, ?_⟩) | ((with_reducible refine gate_dst (N := 9) rfl ?_); refine Kd.S_lit (Kd.slice 3 (Kd.int .i64)) _ 22 ?hg (N := 9) ?hd (xs := ([] : List (List Int))) (inner := []) (ok := fun _ => True) (okp := fun _ => True) ?hr ?hp (fun _ hk => hk) trivial (Below.refl _ _) (Nat.le_refl _) (by simp) ?_; (case hd => rfl); (case hg => rfl); (case hr => first | (go_simp; done) | (go_simp; rfl)); (case hp => exact (Reps.none _ _)); intro v9 w8 ho3 hb hg_ hnew_; clear hg_ hnew_; rw [← Ny775.out] at ho3; have n0_ := Aside0.mk (Kd.S_lower (Kd.S_mono (Kd.S_bound ho3) (ok' := fun k_ => w.heap.size ≤ k_) (fun k_ hk => Nat.le_trans (below_size (by repeat (first | exact HB.out | apply pw_below_drewN))) hk.2.1)) (below_size (by repeat (first | exact HB.out | apply pw_below_drewN)))); have n1_ := Aside0.mk (below_step (by repeat (first | exact HB.out | apply pw_below_drewN)) hb); clear HB hb ho3; have HO777 := n0_; have HB := n1_; clear n0_ n1_))
    go_loopg [4, 5] k (fun kq v4 v5 w' => ∃ (x4_1 : List (List Int)) (x5_1 : Int), v5 = .int .i64 x5_1 ∧ Aside0 (impl_AllRootsUpTo.l0 kq a0 x4_1 x5_1 = some (r1, r2)) ∧ Aside0 (kq ≤ k) ∧ Aside0 (Kd.S (Kd.slice 3 (Kd.int .i64)) 22 w' w.heap.size (fun k_ => (w.heap.size ≤ k_)) v4 x4_1) ∧ Aside0 (Below w.heap.size w w'))
    case atStart => exact ⟨(y775), (1), (by first | rfl | (simp; done) | (simp [*]; done)), H', ⟨Nat.le_refl _⟩, ⟨by (with_reducible repeat (first | apply Kd.S_alloc | apply Kd.S_drewN | apply Kd.S_drew)); exact HO777.out⟩, ⟨by repeat (first | (with_reducible first | exact HB.out | apply below_alloc | apply pw_below_drewN | apply below_drew1) | exact HB.out)⟩⟩
    case round =>
      clear H'
      try clear p2
      try clear c3
      obtain ⟨x4_1, x5_1, rfl, HA, HK1, HO_4, HB⟩ := hrel
      cases gk with
      | zero => exact absurd HA.out (by simp [impl_AllRootsUpTo.l0])
      | succ k1 =>
        have H := HA.out
        clear HA
        simp only [impl_AllRootsUpTo.l0] at H
        by_cases c6 : x5_1 ≤ a0
        · rw [if_pos c6] at H
          have c6b0 : decide (x5_1 ≤ a0) = true := decide_eq_true c6
          clear c6
          replace H := Option.bind_eq_some_iff.mp H
          obtain ⟨t778, A70, H⟩ := H
          replace H : (if x4_1.length + t778.length < 5864062014805 then (impl_AllRootsUpTo.l0 k1 a0 (x4_1 ++ t778) (wrap64 (x5_1 + 1))) else (none)) = some (r1, r2) := H
          have A7 := Aside0.mk A70
          clear A70
          by_cases c8 : x4_1.length + t778.length < 5864062014805
          · rw [if_pos c8] at H
            have LMc8 := Aside0.mk c8
            clear c8
            obtain ⟨y781, hy781⟩ : ∃ y_ : List (List Int), y_ = (x4_1 ++ t778) := ⟨_, rfl⟩
            replace H : (impl_AllRootsUpTo.l0 k1 a0 y781 (wrap64 (x5_1 + 1))) = some (r1, r2) := by first | (rw [hy781]; with_reducible exact H) | (have H2_ := (Option.bind_some _ _).symm.trans H; rw [hy781]; with_reducible exact H2_) | (have H2_ := (Option.bind_some _ _).symm.trans H; with_reducible exact H2_) | with_reducible exact H | (rw [hy781]; exact H) | exact H
            have Ny781 := Aside0.mk hy781
            clear hy781
            have H' := Aside0.mk H
            clear H
            go_wp2_with (first | ((with_reducible refine gate_callee (f := 97) rfl ?_); refine goesL_ (some 17) rfl rfl Try.func97 (by kernel_rfl) rfl #[.int .i64 x5_1] rfl (by (try simp only [List.map_toArray, List.map_cons, List.map_nil]); first | done | rfl) ?_; (with_reducible refine (impl_rootsWith.calls k1 x5_1 t778 _ A7.out).mono ?_); rintro e w9 ⟨v779, rfl, ho0, hb⟩; refine ⟨_, rfl, ?_⟩; have n0_ := Aside0.mk (Kd.S_old HO_4.out hb); have n1_ := Aside0.mk (Kd.S_lower (Kd.S_mono (Kd.S_bound ho0) (ok' := fun k_ => wr.heap.size ≤ k_) (fun k_ hk => hk.2.1)) (below_size HB.out)); have n2_ := Aside0.mk (below_step HB.out hb); have HZ_ := Aside0.mk (below_size HB.out); clear HO_4 HB; have HO_4 := n0_; have HOx := n1_; have HB := n2_; clear n0_ n1_ n2_ hb ho0; obtain ⟨Aox, cox, eox⟩ := Kd.S_slice HOx.out; subst eox) | ((with_reducible refine gate_builtin (b := .append) (xs := #[.tmp 15, .tmp 17]) rfl ?_); at_builtin; refine S_append_rows (Kd.slice 3 (Kd.int .i64)) (w0 := w) w.heap.size rfl (.tmp 15) (.tmp 17) 26 22 (.slice none 0 0) 24 rfl Try.underlying26 info22 rfl (by decide) (by omega) u4 x4_1 t778 _ _ (fun k_ => (w.heap.size ≤ k_)) (fun k_ => wr.heap.size ≤ k_) rfl rfl ?aO ?aY ?aQ ?aF ?aB ?aS ?aL ?_; (case aO => exact Kd.S_mono HO_4.out (fun k_ hk => ⟨hk.1, Nat.not_le.2 hk.2⟩)); (case aY => exact HOx.out); (case aQ => exact (fun k_ hk => ⟨Nat.le_trans HZ_.out hk, fun e_ => Nat.not_le.2 ((Kd.S_R HO_4.out).1 k_ e_.symm).2 hk⟩)); (case aB => exact HB.out); (case aF => exact (fun k_ hk => Nat.le_trans (below_size HB.out) hk)); (case aS => exact below_size HB.out); (case aL => have := LMc8.out; omega); intro v775 w10 ho hb hg hat; rw [← Ny781.out] at ho; have n1_ := Aside0.mk (hb); have n2_ := Aside0.mk (ho); clear HOx HB HO_4; have HB := n1_; have HO783 := n2_; clear n1_ n2_ ho hb hg hat))
            go_roundg k1
            case measure => have := HK1.out; omega
            case rel => exact ⟨(y781), (wrap64 (x5_1 + 1)), (by first | rfl | (simp; done) | (simp [*]; done)), H', ⟨by have := HK1.out; omega⟩, ⟨by (with_reducible repeat (first | apply Kd.S_alloc | apply Kd.S_drewN | apply Kd.S_drew)); exact HO783.out⟩, ⟨by repeat (first | (with_reducible first | exact HB.out | apply below_alloc | apply pw_below_drewN | apply below_drew1) | exact HB.out)⟩⟩
          · rw [if_neg c8] at H
            exact absurd H (by simp)
        · rw [if_neg c6] at H
          have c6b0 : decide (x5_1 ≤ a0) = false := decide_eq_false c6
          clear c6
          simp only [Option.some.injEq, Prod.mk.injEq] at H
          obtain ⟨rfl, rfl⟩ := H
          go_wp2
          go_ret2
          exact ⟨_, by first | rfl | (simp [errW_none, errW_some] <;> rfl) | (simp [*, errW_none, errW_some] <;> rfl), by (with_reducible repeat (first | apply Kd.S_alloc | apply Kd.S_drewN | apply Kd.S_drew)); exact HO_4.out, by repeat (first | (with_reducible first | exact HB.out | apply below_alloc | apply pw_below_drewN | apply below_drew1) | exact HB.out)⟩
  · replace c3 := Bool.eq_false_iff.mpr c3
    subst c3
    have H1 : (some (([] : List (List Int)), false)) = some (r1, r2) := by rw [if_neg (show ¬ (false = true) by decide)] at H; exact H
    clear H
    have H := H1
    clear H1
    simp only [Option.some.injEq, Prod.mk.injEq] at H
    obtain ⟨rfl, rfl⟩ := H
    go_enter Try.func60, Try.ntmps60
    go_wp2_with (first | ((with_reducible refine gate_callee (f := 95) rfl ?_); refine goesL_ (some 7) rfl rfl Try.func95 (by kernel_rfl) rfl #[.int .i64 a0, .int .i64 1, .int .i64 30] rfl (by (try simp only [List.map_toArray, List.map_cons, List.map_nil]); first | done | rfl | (simp only [List.length_drop, List.length_take]; rfl)) ?_; (with_reducible refine (impl_within.calls a0 1 30 false _ A2.out).mono ?_); rintro e w' ⟨rfl, ⟨nd, rfl⟩⟩; refine ⟨_, rfl, ?_⟩))
    go_ret2
    exact ⟨_, by first | rfl | (simp [errW_none, errW_some] <;> rfl) | (simp [*, errW_none, errW_some] <;> rfl), by first | exact Kd.S_nil _ _ _ _ _ | exact Kd.S_nil _ _ _ _ _ | exact Kd.V_nil _ _ _ _ _ | exact Kd.Q_nil _ _ _ _ _ | exact Kd.R_nil _ _ _ _ _, by repeat (first | (with_reducible first | exact HB.out | apply below_alloc | apply pw_below_drewN | apply below_drew1) | exact HB.out)⟩

/-! ### laws_FnExactAllRootsUpTo: function 18 -/
def laws_FnExactAllRootsUpTo.Pure : Prop := ∀ (a0 : Int), (Lit.int .i64 a0).wf = true →
  ∃ k r b, spec_AllRootsUpTo.f k a0 = some (r, b) ∧ impl_AllRootsUpTo.f k a0 = some (r, b) ∧ (r.length : Int) ≤ 9223372036854775806 ∧ (cellsOf r : Int) + 1 ≤ 4611686018427387904
set_option maxHeartbeats 8000000 in
set_option maxRecDepth 100000 in
theorem laws_FnExactAllRootsUpTo.walk (P : laws_FnExactAllRootsUpTo.Pure) (a0 : Int) (w : World) (w0_ : (Lit.int .i64 a0).wf = true) :
    Calls Try.prog 18 #[.int .i64 a0] w fun e w' => e = .returned (.bool true) ∧ Below w.heap.size w w' := by
  obtain ⟨k, r, b, HS0, HI0, hl, hc⟩ := P a0 w0_
  have HS := Aside0.mk HS0
  have HI := Aside0.mk HI0
  have HE := Aside0.mk (eqIntSS_refl r hl (by omega) (r.length + cellsOf r + 2) (by omega))
  have HM := Aside0.mk (markIntSS_f r (r.length + cellsOf r + 2) (by omega) hl hc)
  have HH := Aside0.mk (heldIntSS_f r (r.length + cellsOf r + 2) (by omega) hl hc)
  have HML := Aside0.mk (mkS_length r 1)
  have hm0 : (0 : Int) ≤ cellsOf r := by omega
  have hm1 : (cellsOf r : Int) ≤ 4611686018427387904 := by omega
  have HP := Aside0.mk P
  clear HS0 HI0 hl hc P w0_
  replace HP := Aside0.mk trivial
  generalize mkS 1 r = r2 at HM HH HML
  generalize hcc : (cellsOf r : Int) = c at HM HH hm0 hm1
  clear hcc
  go_enter Try.func18, Try.ntmps18
  go_wp2_with fail
  refine (spec_AllRootsUpTo.calls k a0 _ _ _ HS.out).mono ?_
  rintro e w1 ⟨vw, rfl, hw1, hb1⟩
  replace hw1 := Aside0.mk (show Kd.N (Kd.slice 3 (Kd.int .i64)) 22 w1 w.heap.size (fun _ => True) vw r from by first | exact Kd.N_mono hw1 (fun _ _ => trivial) | exact Kd.N_mono (Kd.S_N hw1) (fun _ _ => trivial) | exact Kd.N_mono (Kd.R_N hw1) (fun _ _ => trivial))
  replace hb1 := Aside0.mk hb1
  obtain ⟨Aw, cw, ew⟩ := Kd.N_slice hw1.out
  subst ew
  go_wp2_with fail
  refine (impl_AllRootsUpTo.calls k a0 _ _ _ HI.out).mono ?_
  rintro e w2 ⟨vg, rfl, hw2, hb2⟩
  replace hw2 := Aside0.mk (show Kd.S (Kd.slice 3 (Kd.int .i64)) 22 w2 w1.heap.size (fun k_ => w1.heap.size ≤ k_) vg r from Kd.S_mono (Kd.S_bound hw2) (fun _ hk => hk.2.1))
  replace hb2 := Aside0.mk hb2
  obtain ⟨Ag, cg, eg⟩ := Kd.R_slice (Kd.S_R hw2.out)
  subst eg
  have heq2 := laws_eqIntSS.calls (r.length + cellsOf r + 2) Ag cg r Aw cw r true w2 (Kd.S_reads' hw2.out).2.2 (Kd.S_reads' hw2.out).2.1 (Kd.N_reads' (Kd.N_below hw1.out hb2.out)).2.2 (Kd.N_reads' hw1.out).2.1 HE.out
  go_wp2_with (go_at_call 46; refine heq2.mono ?_; rintro e w' ⟨rfl, ⟨nd, rfl⟩⟩; clear heq2)
  have hmk := laws_markIntSS.calls (r.length + cellsOf r + 2) (fun k_ => w1.heap.size ≤ k_) _ r 1 _ r2 w1 (w2.drewN nd) (pw_below_drewN hb2.out nd) (Kd.S_drewN hw2.out nd) HM.out
  refine hmk.mono ?_
  clear hmk
  rintro e w3 ⟨rfl, hw3, hb3, -⟩
  replace hw3 := Aside0.mk (show Kd.S (Kd.slice 3 (Kd.int .i64)) 22 w3 w1.heap.size (fun k_ => w1.heap.size ≤ k_) _ r2 from Kd.S_mono (Kd.S_bound hw3) (fun _ hk => hk.2.1))
  replace hb3 := Aside0.mk hb3
  clear hw2 hb2
  have hhd : ∀ W, Below w3.heap.size w3 W → Calls Try.prog 48 #[.slice Ag r.length cg, .int .i64 1] W fun e w' => e = .returned (.int .i64 (1 + c)) ∧ Drawn0 W w' := fun W hW => by
    have hS3 := Kd.S_reads' (Kd.S_below hw3.out hW)
    have hcl := laws_heldIntSS.calls (r.length + cellsOf r + 2) Ag cg r2 1 (1 + c) W hS3.2.2 (by rw [← hS3.1]; exact hS3.2.1) HH.out
    rw [← hS3.1] at hcl
    exact hcl
  replace hhd := Aside0.mk hhd
  go_wp2_with (go_at_call 48; refine (hhd.out _ (Below.refl _ _)).mono ?_; rintro e w' ⟨rfl, ⟨nd3, rfl⟩⟩)
  refine (impl_AllRootsUpTo.calls k a0 _ _ _ HI.out).mono ?_
  rintro e w4 ⟨vh, rfl, hw4, hb4⟩
  replace hb4 := Aside0.mk (show Below w3.heap.size w3 w4 from (pw_below_drewN (Below.refl _ _) nd3).trans hb4)
  replace hw4 := Aside0.mk (show Kd.N (Kd.slice 3 (Kd.int .i64)) 22 w4 _ (fun _ => True) vh r from by first | exact Kd.N_mono hw4 (fun _ _ => trivial) | exact Kd.N_mono (Kd.S_N hw4) (fun _ _ => trivial) | exact Kd.N_mono (Kd.R_N hw4) (fun _ _ => trivial))
  obtain ⟨Ah, ch, eh⟩ := Kd.N_slice hw4.out
  subst eh
  have heq4 := laws_eqIntSS.calls (r.length + cellsOf r + 2) Ah ch r Aw cw r true w4 (Kd.N_reads' hw4.out).2.2 (Kd.N_reads' hw4.out).2.1 (Kd.N_reads' (Kd.N_below (Kd.N_below hw1.out hb3.out) hb4.out)).2.2 (Kd.N_reads' hw1.out).2.1 HE.out
  go_wp2_with (first | (go_at_call 46; refine heq4.mono ?_; rintro e w' ⟨rfl, ⟨nd4, rfl⟩⟩; clear heq4) | (go_at_call 48; refine (hhd.out _ (by repeat (first | exact hb4.out | apply pw_below_drewN))).mono ?_; rintro e w' ⟨rfl, ⟨nd5, rfl⟩⟩))
  go_ret
  exact ⟨rfl, by repeat (first | exact below_then hb1.out (Nat.le_of_lt_succ (Nat.lt_succ_of_le hb1.out.size)) (below_then hb3.out hb3.out.size hb4.out) | apply pw_below_drewN)⟩

end Go.Proofs.Ytmjodkckffmnaaa.P
