/- Written by a program of this session: for Go functions that a statement reaches, Lean functions with the same answers and the proofs that the calls come to them; conditions: none but the arguments' kinds. -/
import Derived.Test.YtgjgoeodhioeiaaP0
import Derived.Test.YtgjgoeodhioeiaaP1
import Derived.Test.YtgjgoeodhioeiaaP2
import Derived.Test.YtgjgoeodhioeiaaP3
import Derived.Test.YtgjgoeodhioeiaaP4
import Derived.Test.YtgjgoeodhioeiaaP5
import Derived.Test.YtgjgoeodhioeiaaP7
namespace Go.Proofs.Ytgjgoeodhioeiaa.P
open Go.RowKit Go.Proofs.YtgjgoeodhioeiaaW.PrintWords Go.Proofs.YtgjgoeodhioeiaaW.PrintLast Go.Proofs.YtgjgoeodhioeiaaW.PrintMore
attribute [local go_sem] max2_int min2_int max_two min_two max_three min_three max_four min_four   -- for this text's walks alone
set_option linter.unusedVariables false
set_option linter.unusedSimpArgs false

/-! ### slices_CompactFunc_int_int: function 33 -/
theorem slEq_l (l m : List Int) (he : l.length = m.length) (hl : (l.length : Int) ≤ 9223372036854775807) (d : Nat) : ∀ (i k : Nat), i + d = l.length → d < k → l.take i = m.take i → slices_Equal_int_int.l0 k l m (l.length : Int) (i : Int) = some (decide (l = m)) := by
  induction d with
  | zero =>
    intro i k hi hk ht
    obtain ⟨k, rfl⟩ : ∃ q, k = q + 1 := ⟨k - 1, by omega⟩
    simp only [slices_Equal_int_int.l0]
    rw [if_neg (by omega)]
    rw [List.take_of_length_le (by omega), List.take_of_length_le (by omega)] at ht
    simp [ht]
  | succ d ih =>
    intro i k hi hk ht
    obtain ⟨k, rfl⟩ : ∃ q, k = q + 1 := ⟨k - 1, by omega⟩
    have h1 : i < l.length := by omega
    have h2 : i < m.length := by omega
    have r1 : rd l (i : Int) = l[i] := by simp [rd, List.getD_eq_getElem?_getD, List.getElem?_eq_getElem h1]
    have r2 : rd m (i : Int) = m[i] := by simp [rd, List.getD_eq_getElem?_getD, List.getElem?_eq_getElem h2]
    simp only [slices_Equal_int_int.l0]
    rw [if_pos (by omega), if_pos (by omega), if_pos (by omega), if_pos (by omega), r1, r2]
    by_cases hx : l[i] = m[i]
    · rw [if_pos hx, show wrap64 ((i : Int) + 1) = ((i + 1 : Nat) : Int) by unfold wrap64; omega]
      exact ih (i + 1) k (by omega) (by omega) (by rw [List.take_succ_eq_append_getElem h1, List.take_succ_eq_append_getElem h2, ht, hx])
    · rw [if_neg hx]
      have : l ≠ m := fun e => hx (by subst e; rfl)
      simp [this]
theorem slEq_f (l m : List Int) (hl : (l.length : Int) ≤ 9223372036854775807) : slices_Equal_int_int.f (l.length + 1) l m = some (decide (l = m)) := by
  unfold slices_Equal_int_int.f
  by_cases he : l.length = m.length
  · rw [if_pos (by omega)]
    exact slEq_l l m he hl l.length 0 _ (by omega) (by omega) (by simp)
  · rw [if_neg (by omega)]
    have : l ≠ m := fun e => he (by rw [e])
    simp [this]
/-- No row is as the one before it. -/
def apartB : List (List Int) → Bool
  | a :: b :: r => !(decide (a = b)) && apartB (b :: r)
  | _ => true
theorem apartB_at : ∀ (l : List (List Int)) (i : Nat) (h : i + 1 < l.length), apartB l = true → l[i + 1] ≠ l[i]
  | a :: b :: r, 0, _, hp => by
    simp only [apartB, Bool.and_eq_true, Bool.not_eq_true', decide_eq_false_iff_not] at hp
    exact fun e => hp.1 e.symm
  | a :: b :: r, i + 1, h, hp => by
    simp only [apartB, Bool.and_eq_true] at hp
    exact apartB_at (b :: r) i (by simpa using h) hp.2
def slices_CompactFunc_int_int.f (l0 : List (List Int)) : Option (List (List Int)) := if apartB l0 = true then some l0 else none
set_option maxHeartbeats 8000000 in
set_option maxRecDepth 100000 in
theorem slices_CompactFunc_int_int.calls (P0_ : Nat → Prop) (u9000_ : Value) (l0 r : List (List Int)) (w0 w : World) (hB : Below w0.heap.size w0 w) (ho0 : Kd.S (Kd.slice 3 (Kd.int .i64)) 29 w w0.heap.size P0_ u9000_ l0) (h : slices_CompactFunc_int_int.f l0 = some r) :
    Calls Try.prog 33 #[u9000_, .func (.func 34) #[] #[]] w fun e w' => ∃ v0_ : Value, e = .returned (v0_) ∧ Kd.S (Kd.slice 3 (Kd.int .i64)) 29 w' w0.heap.size (fun k_ => (P0_ k_ ∨ w.heap.size ≤ k_)) v0_ r ∧ Below w0.heap.size w0 w' ∧ Kept w w' (fun k_ => P0_ k_) := by
  have hl : apartB l0 = true ∧ l0 = r := by
    unfold slices_CompactFunc_int_int.f at h
    split at h
    · rename_i h1; exact ⟨h1, Option.some.inj h⟩
    · cases h
  obtain ⟨hp, rfl⟩ := hl
  have AP := Aside0.mk hp
  have HS := Aside0.mk (Kd.S_mono ho0 (ok' := fun k_ => (P0_ k_ ∨ w.heap.size ≤ k_)) (fun _ hk => .inl hk))
  have HB := Aside0.mk hB
  have HK := Aside0.mk (Kept.refl w (fun k_ => P0_ k_))
  clear h hp ho0 hB
  have eg := enters_of Try.func34 (by kernel_rfl) rfl
  obtain ⟨Au, cu, eu⟩ := Kd.S_slice HS.out
  subst eu
  have LM := Aside0.mk (show l0.length ≤ 9223372036854775807 from (Kd.S_reads' HS.out).2.2.2.1)
  by_cases h2 : (l0.length : Int) < 2
  · have hb0 : decide ((l0.length : Int) < 2) = true := decide_eq_true h2
    have hb1 : decide (l0.length < 2) = true := decide_eq_true (by omega)
    go_enter Try.func33, Try.ntmps33
    go_wp2
    go_ret
    exact ⟨_, rfl, HS.out, HB.out, HK.out⟩
  · have hb0 : decide ((l0.length : Int) < 2) = false := decide_eq_false h2
    have hb1 : decide (l0.length < 2) = false := decide_eq_false (by omega)
    go_enter Try.func33, Try.ntmps33
    go_wp2
    go_loopg [5] l0.length (fun gq v5 wr => ∃ j : Nat, v5 = .int .i64 ((j : Int) + 1) ∧ j + 1 ≤ l0.length ∧ j + gq = l0.length ∧ Aside0 (Kd.S (Kd.slice 3 (Kd.int .i64)) 29 wr w0.heap.size (fun k_ => (P0_ k_ ∨ w.heap.size ≤ k_)) (.slice Au l0.length cu) l0) ∧ Aside0 (Kept w wr (fun k_ => P0_ k_)) ∧ Aside0 (Below w0.heap.size w0 wr))
    case atStart => exact ⟨0, rfl, by omega, by omega, HS, HK, HB⟩
    case round =>
      clear HS HK HB
      obtain ⟨j, rfl, hk2, hkg, HS, HK, HB⟩ := hrel
      cases gk with
      | zero => omega
      | succ g1 =>
        by_cases hlt : (j : Int) + 1 < (l0.length : Int)
        · have hlb : decide ((j : Int) + 1 < (l0.length : Int)) = true := decide_eq_true hlt
          have hlb2 : decide (j + 1 < l0.length) = true := decide_eq_true (by omega)
          obtain ⟨ad, A1, c1, e1, hx1, hl1, hi1⟩ := at_L2 (Kd.S_reads' HS.out).2.2 ((j : Int) + 1) (by omega) (by omega)
          subst e1
          obtain ⟨ad2, A2, c2, e2, hx2, hl2, hi2⟩ := at_L2 (Kd.S_reads' HS.out).2.2 (j : Int) (by omega) (by omega)
          cases e2
          have hne : rd_L2 l0 ((j : Int) + 1) ≠ rd_L2 l0 (j : Int) := by
            have h1 := apartB_at l0 j (by omega) AP.out
            have e1 : rd_L2 l0 ((j : Int) + 1) = l0[j + 1]'(by omega) := by
              simp [rd_L2, List.getD_eq_getElem?_getD, show ((j : Int) + 1).toNat = j + 1 by omega, List.getElem?_eq_getElem (show j + 1 < l0.length by omega)]
            have e2 : rd_L2 l0 (j : Int) = l0[j]'(by omega) := by
              simp [rd_L2, List.getD_eq_getElem?_getD, List.getElem?_eq_getElem (show j < l0.length by omega)]
            rw [e1, e2]
            exact h1
          have hq := slEq_f (rd_L2 l0 ((j : Int) + 1)) (rd_L2 l0 (j : Int))
          generalize rd_L2 l0 ((j : Int) + 1) = a at hx1 hl1 hi1 hne hq
          generalize rd_L2 l0 (j : Int) = b at hx2 hl2 hi2 hne hq
          rw [decide_eq_false hne] at hq
          have HQ := Aside0.mk (hq (by have := hi1.2.1; omega))
          have HI1 := Aside0.mk hi1
          have HI2 := Aside0.mk hi2
          have HL1 := Aside0.mk hl1
          have HL2 := Aside0.mk hl2
          clear hq hne hi1 hi2 hl1 hl2
          have w1_ : IntKind.i64.wrap (j : Int) = (j : Int) := by rw [i64_w]; unfold wrap64; have := LM.out; omega
          have w2_ : (0 ≤ (j : Int) + 1) = True := eq_true (by omega)
          have w3_ : ((j : Int) < (l0.length : Int)) = True := eq_true (by omega)
          have w5_ : ((j : Int) + 1 < (l0.length : Int)) = True := eq_true hlt
          have w6_ : (j < l0.length) = True := eq_true (by omega)
          have w7_ : (j + 1 < l0.length) = True := eq_true (by omega)
          have w8_ : ((j : Int) + 1).toNat = j + 1 := by omega
          obtain ⟨g, rfl⟩ := Kd.R_head (Kd.S_R HS.out)
          rw [w8_, add_plain] at hx1
          rw [Int.toNat_natCast, add_plain] at hx2
          go_wp2
          go_quiet ((go_at_call 34; refine (slices_Equal_int_int.calls (a.length + 1) A1 c1 a A2 c2 b false _ (by repeat (first | exact HI1.out | apply Kd.C_drewN | apply Kd.C_drew)) HL1.out (by repeat (first | exact HI2.out | apply Kd.C_drewN | apply Kd.C_drew)) HL2.out HQ.out).mono ?_; rintro e w' ⟨rfl, ⟨nd, rfl⟩⟩; exact ⟨rfl, _, World.drewN_drewN _ _ _⟩))
          clear w1_ w2_ w3_ w5_ w6_ w7_ w8_
          have hm_ : (l0.length : Int) ≤ 9223372036854775807 := by have := LM.out; omega
          go_wp2
          go_roundg g1
          case measure => omega
          case rel => exact ⟨j + 1, by first | rfl | go_num, by omega, by omega, ⟨Kd.S_drewN HS.out _⟩, ⟨Kept.drewN HK.out _⟩, ⟨pw_below_drewN HB.out _⟩⟩
        · have hlb : decide ((j : Int) + 1 < (l0.length : Int)) = false := decide_eq_false hlt
          have hlb2 : decide (j + 1 < l0.length) = false := decide_eq_false (by omega)
          go_wp2
          go_ret
          exact ⟨_, rfl, HS.out, HB.out, HK.out⟩

/-! ### impl_rootsWith: function 20 -/
/-- What comes behind the loops: sorted, and of equal rows one. -/
def rootsTail (l : List (List Int)) : Option (List (List Int)) := (slices_SortFunc_int_int.f l).bind fun m => slices_CompactFunc_int_int.f m
mutual
def impl_rootsWith.l0 : Nat → Int → List (List Int) → Int → Option ((List (List Int)))
  | 0, _, _, _ => none
  | k + 1, x0, x3, x4 => if (wrap64 ((wrap64 (3 * x4)) * x4)) ≤ (wrap64 ((wrap64 (4 * x0)) * x0)) then (impl_rootsWith.l1 k x0 x3 x4 0) else (rootsTail x3)
def impl_rootsWith.l1 : Nat → Int → List (List Int) → Int → Int → Option ((List (List Int)))
  | 0, _, _, _, _ => none
  | k + 1, x0, x3, x4, x5 => if (wrap64 (2 * x5)) ≤ x4 then (if x4 = 0 then (none) else ((some (([wrap64 (-x0), wrap64 (x4 + x0), wrap64 ((wrap64 (Int.tdiv (wrap64 ((wrap64 (x0 * x0)) + (wrap64 (x5 * x5)))) x4)) + x0), wrap64 ((wrap64 ((wrap64 (x4 + (wrap64 (Int.tdiv (wrap64 ((wrap64 (x0 * x0)) + (wrap64 (x5 * x5)))) x4)))) + x0)) - (wrap64 (2 * x5)))] : List Int) : List Int)).bind fun y149 => (if (Int.tmod (wrap64 ((wrap64 (x0 * x0)) + (wrap64 (x5 * x5)))) x4) = 0 then (if (wrap64 (Int.tdiv (wrap64 ((wrap64 (x0 * x0)) + (wrap64 (x5 * x5)))) x4)) ≥ x4 then ((impl_IsQuad.f k y149).bind fun t152 => (if t152 = true then ((impl_isRoot.f k y149).bind fun t153 => (if t153 = true then ((impl_scale.f k y149).bind fun t154 => (if t154 = 1 then ((slices_Sort_int_int.f y149).bind fun t155 => (if x3.length < 5864062014805 then (impl_rootsWith.l1 k x0 (x3 ++ [t155]) x4 (wrap64 (x5 + 1))) else (none))) else (impl_rootsWith.l1 k x0 x3 x4 (wrap64 (x5 + 1))))) else (impl_rootsWith.l1 k x0 x3 x4 (wrap64 (x5 + 1))))) else (impl_rootsWith.l1 k x0 x3 x4 (wrap64 (x5 + 1))))) else (impl_rootsWith.l1 k x0 x3 x4 (wrap64 (x5 + 1)))) else (impl_rootsWith.l1 k x0 x3 x4 (wrap64 (x5 + 1)))))) else (impl_rootsWith.l0 k x0 x3 (wrap64 (x4 + 1)))
end
def impl_rootsWith.f (k : Nat) (a0 : Int) : Option ((List (List Int))) := impl_rootsWith.l0 k a0 (([] : List (List Int))) 1
theorem impl_rootsWith.mono_l : ∀ k, (∀ y0 y1 y2, LeO (impl_rootsWith.l0 k y0 y1 y2) (impl_rootsWith.l0 (k + 1) y0 y1 y2)) ∧ (∀ y0 y1 y2 y3, LeO (impl_rootsWith.l1 k y0 y1 y2 y3) (impl_rootsWith.l1 (k + 1) y0 y1 y2 y3))
  | 0 => ⟨fun _ _ _ r h => by simp [impl_rootsWith.l0] at h, fun _ _ _ _ r h => by simp [impl_rootsWith.l1] at h⟩
  | k + 1 => by
    obtain ⟨ih0, ih1⟩ := impl_rootsWith.mono_l k
    refine ⟨?_, ?_⟩
    · intro y0 y1 y2
      unfold impl_rootsWith.l0
      repeat' first
      | (with_reducible exact ih0 _ _ _)
      | (with_reducible exact ih1 _ _ _ _)
      | (with_reducible exact impl_IsQuad.mono _ _)
      | (with_reducible exact impl_isRoot.mono _ _)
      | (with_reducible exact impl_scale.mono _ _)
      | (with_reducible exact LeO.refl _)
      | (with_reducible exact LeO.none _)
      | (with_reducible refine LeO.ite ?_ ?_)
      | (with_reducible refine LeO.bind ?_ (fun _ => ?_))
      | exact ih0 _ _ _
      | exact ih1 _ _ _ _
      | exact impl_IsQuad.mono _ _
      | exact impl_isRoot.mono _ _
      | exact impl_scale.mono _ _
      | exact LeO.none _
      | refine LeO.ite ?_ ?_
      | refine LeO.bind ?_ (fun _ => ?_)
    · intro y0 y1 y2 y3
      unfold impl_rootsWith.l1
      repeat' first
      | (with_reducible exact ih0 _ _ _)
      | (with_reducible exact ih1 _ _ _ _)
      | (with_reducible exact impl_IsQuad.mono _ _)
      | (with_reducible exact impl_isRoot.mono _ _)
      | (with_reducible exact impl_scale.mono _ _)
      | (with_reducible exact LeO.refl _)
      | (with_reducible exact LeO.none _)
      | (with_reducible refine LeO.ite ?_ ?_)
      | (with_reducible refine LeO.bind ?_ (fun _ => ?_))
      | exact ih0 _ _ _
      | exact ih1 _ _ _ _
      | exact impl_IsQuad.mono _ _
      | exact impl_isRoot.mono _ _
      | exact impl_scale.mono _ _
      | exact LeO.none _
      | refine LeO.ite ?_ ?_
      | refine LeO.bind ?_ (fun _ => ?_)
theorem impl_rootsWith.mono : ∀ a0 k, LeO (impl_rootsWith.f k a0) (impl_rootsWith.f (k + 1) a0) := by
  intro a0 k
  obtain ⟨ih0, ih1⟩ := impl_rootsWith.mono_l k
  unfold impl_rootsWith.f
  repeat' first
      | (with_reducible exact ih0 _ _ _)
      | (with_reducible exact ih1 _ _ _ _)
      | (with_reducible exact impl_IsQuad.mono _ _)
      | (with_reducible exact impl_isRoot.mono _ _)
      | (with_reducible exact impl_scale.mono _ _)
      | (with_reducible exact LeO.refl _)
      | (with_reducible exact LeO.none _)
      | (with_reducible refine LeO.ite ?_ ?_)
      | (with_reducible refine LeO.bind ?_ (fun _ => ?_))
      | exact ih0 _ _ _
      | exact ih1 _ _ _ _
      | exact impl_IsQuad.mono _ _
      | exact impl_isRoot.mono _ _
      | exact impl_scale.mono _ _
      | exact LeO.none _
      | refine LeO.ite ?_ ?_
      | refine LeO.bind ?_ (fun _ => ?_)
set_option maxHeartbeats 8000000 in
set_option maxRecDepth 100000 in
theorem impl_rootsWith.calls (k : Nat) (a0 : Int) (r : List (List Int)) (w : World) (h : impl_rootsWith.f k a0 = some r) :
    Calls Try.prog 20 #[.int .i64 a0] w fun e w' => ∃ v0_ : Value, e = .returned (v0_) ∧ Kd.S (Kd.slice 3 (Kd.int .i64)) 29 w' w.heap.size (fun _ => True) v0_ r ∧ Below w.heap.size w w' := by
  have HB := Aside0.mk (Below.refl w.heap.size w)
  have H : (impl_rootsWith.l0 k a0 (([] : List (List Int))) 1) = some r := h
  clear h
  obtain ⟨y146, hy146⟩ : ∃ y_ : List (List Int), y_ = (([] : List (List Int))) := ⟨_, rfl⟩
  replace H : (impl_rootsWith.l0 k a0 y146 1) = some r := by first | (rw [hy146]; with_reducible exact H) | (have H2_ := (Option.bind_some _ _).symm.trans H; rw [hy146]; with_reducible exact H2_) | (have H2_ := (Option.bind_some _ _).symm.trans H; with_reducible exact H2_) | with_reducible exact H | (rw [hy146]; exact H) | exact H
  have Ny146 := Aside0.mk hy146
  clear hy146
  have H' := Aside0.mk H
  clear H
  go_enter Try.func20, Try.ntmps20
  go_wp2_with (first | ((with_reducible refine gate_dst (N := 9) rfl ?_); refine Kd.S_lit (Kd.slice 3 (Kd.int .i64)) _ 29 ?hg (N := 9) ?hd (xs := ([] : List (List Int))) (inner := []) (ok := fun _ => True) (okp := fun _ => True) ?hr ?hp (fun _ hk => hk) trivial (Below.refl _ _) (Nat.le_refl _) (by simp) ?_; (case hd => rfl); (case hg => rfl); (case hr => first | (go_simp; done) | (go_simp; rfl)); (case hp => exact (Reps.none _ _)); intro v147 w2 ho3 hb hg_ hnew_; clear hg_ hnew_; (first | rw [← Ny146.out] at ho3 | (simp only [Int.reduceToNat] at ho3; rw [← Ny146.out] at ho3)); have n0_ := Aside0.mk (Kd.S_lower ho3 (below_size (by repeat (first | (with_reducible first | exact HB.out | apply below_alloc | apply pw_below_drewN | apply below_drew1) | exact HB.out)))); have n1_ := Aside0.mk (below_step (by repeat (first | (with_reducible first | exact HB.out | apply below_alloc | apply pw_below_drewN | apply below_drew1) | exact HB.out)) hb); clear HB; have HO148 := n0_; have HB := n1_; clear n0_ n1_; clear hb ho3))
  go_loopg [3, 4] k (fun kq v3 v4 w' => ∃ (x3_1 : List (List Int)) (x4_1 : Int), v4 = .int .i64 x4_1 ∧ Aside0 (impl_rootsWith.l0 kq a0 x3_1 x4_1 = some r) ∧ Aside0 (kq ≤ k) ∧ Aside0 (Kd.S (Kd.slice 3 (Kd.int .i64)) 29 w' w.heap.size (fun _ => True) v3 x3_1) ∧ Aside0 (Below w.heap.size w w'))
  case atStart => exact ⟨(y146), (1), (by first | rfl | (simp; done) | (simp [*]; done)), H', ⟨Nat.le_refl _⟩, ⟨by (with_reducible repeat (first | apply Kd.S_alloc | apply Kd.S_drewN | apply Kd.S_drew)); exact HO148.out⟩, ⟨by repeat (first | (with_reducible first | exact HB.out | apply below_alloc | apply pw_below_drewN | apply below_drew1) | exact HB.out)⟩⟩
  case round =>
    clear H'
    try clear c2
    try clear p2
    obtain ⟨x3_1, x4_1, rfl, HA, HK1, HO_3, HB⟩ := hrel
    cases gk with
    | zero => exact absurd HA.out (by simp [impl_rootsWith.l0])
    | succ k1 =>
      have H := HA.out
      clear HA
      simp only [impl_rootsWith.l0] at H
      by_cases c4 : (wrap64 ((wrap64 (3 * x4_1)) * x4_1)) ≤ (wrap64 ((wrap64 (4 * a0)) * a0))
      · rw [if_pos c4] at H
        have c4b0 : decide ((wrap64 ((wrap64 (3 * x4_1)) * x4_1)) ≤ (wrap64 ((wrap64 (4 * a0)) * a0))) = true := decide_eq_true c4
        clear c4
        have H' := Aside0.mk H
        clear H
        go_wp2
        go_loopg [3, 5] k1 (fun kq v3 v5 w' => ∃ (x3_2 : List (List Int)) (x5_2 : Int), v5 = .int .i64 x5_2 ∧ Aside0 (impl_rootsWith.l1 kq a0 x3_2 x4_1 x5_2 = some r) ∧ Aside0 (kq ≤ k1) ∧ Aside0 (Kd.S (Kd.slice 3 (Kd.int .i64)) 29 w' w.heap.size (fun _ => True) v3 x3_2) ∧ Aside0 (Below w.heap.size w w'))
        case atStart => exact ⟨(x3_1), (0), (by first | rfl | (simp; done) | (simp [*]; done)), H', ⟨Nat.le_refl _⟩, ⟨by (with_reducible repeat (first | apply Kd.S_alloc | apply Kd.S_drewN | apply Kd.S_drew)); exact HO_3.out⟩, ⟨by repeat (first | (with_reducible first | exact HB.out | apply below_alloc | apply pw_below_drewN | apply below_drew1) | exact HB.out)⟩⟩
        case round =>
          clear H'
          try clear c2
          try clear p2
          try clear c4
          try clear c4b0
          try clear p2
          obtain ⟨x3_2, x5_2, rfl, HA, HK2, HO_3, HB⟩ := hrel
          cases gk with
          | zero => exact absurd HA.out (by simp [impl_rootsWith.l1])
          | succ k2 =>
            have H := HA.out
            clear HA
            simp only [impl_rootsWith.l1] at H
            by_cases c5 : (wrap64 (2 * x5_2)) ≤ x4_1
            · rw [if_pos c5] at H
              have c5b0 : decide ((wrap64 (2 * x5_2)) ≤ x4_1) = true := decide_eq_true c5
              clear c5
              by_cases c6 : x4_1 = 0
              · rw [if_pos c6] at H
                exact absurd H (by simp)
              · rw [if_neg c6] at H
                have c6b0 : (x4_1 == 0) = false := beq_eq_false_iff_ne.mpr c6
                have c6b1 : (x4_1 != 0) = true := bne_iff_ne.mpr c6
                obtain ⟨y149, hy149⟩ : ∃ y_ : List Int, y_ = (([wrap64 (-a0), wrap64 (x4_1 + a0), wrap64 ((wrap64 (Int.tdiv (wrap64 ((wrap64 (a0 * a0)) + (wrap64 (x5_2 * x5_2)))) x4_1)) + a0), wrap64 ((wrap64 ((wrap64 (x4_1 + (wrap64 (Int.tdiv (wrap64 ((wrap64 (a0 * a0)) + (wrap64 (x5_2 * x5_2)))) x4_1)))) + a0)) - (wrap64 (2 * x5_2)))] : List Int)) := ⟨_, rfl⟩
                replace H : (if (Int.tmod (wrap64 ((wrap64 (a0 * a0)) + (wrap64 (x5_2 * x5_2)))) x4_1) = 0 then (if (wrap64 (Int.tdiv (wrap64 ((wrap64 (a0 * a0)) + (wrap64 (x5_2 * x5_2)))) x4_1)) ≥ x4_1 then ((impl_IsQuad.f k2 y149).bind fun t152 => (if t152 = true then ((impl_isRoot.f k2 y149).bind fun t153 => (if t153 = true then ((impl_scale.f k2 y149).bind fun t154 => (if t154 = 1 then ((slices_Sort_int_int.f y149).bind fun t155 => (if x3_2.length < 5864062014805 then (impl_rootsWith.l1 k2 a0 (x3_2 ++ [t155]) x4_1 (wrap64 (x5_2 + 1))) else (none))) else (impl_rootsWith.l1 k2 a0 x3_2 x4_1 (wrap64 (x5_2 + 1))))) else (impl_rootsWith.l1 k2 a0 x3_2 x4_1 (wrap64 (x5_2 + 1))))) else (impl_rootsWith.l1 k2 a0 x3_2 x4_1 (wrap64 (x5_2 + 1))))) else (impl_rootsWith.l1 k2 a0 x3_2 x4_1 (wrap64 (x5_2 + 1)))) else (impl_rootsWith.l1 k2 a0 x3_2 x4_1 (wrap64 (x5_2 + 1)))) = some r := by first | (rw [hy149]; with_reducible exact H) | (have H2_ := (Option.bind_some _ _).symm.trans H; rw [hy149]; with_reducible exact H2_) | (have H2_ := (Option.bind_some _ _).symm.trans H; with_reducible exact H2_) | with_reducible exact H | (rw [hy149]; exact H) | exact H
                have Ny149 := Aside0.mk hy149
                clear hy149
                by_cases c7 : (Int.tmod (wrap64 ((wrap64 (a0 * a0)) + (wrap64 (x5_2 * x5_2)))) x4_1) = 0
                · rw [if_pos c7] at H
                  have c7b0 : ((Int.tmod (wrap64 ((wrap64 (a0 * a0)) + (wrap64 (x5_2 * x5_2)))) x4_1) == 0) = true := beq_iff_eq.mpr c7
                  have c7b1 : ((Int.tmod (wrap64 ((wrap64 (a0 * a0)) + (wrap64 (x5_2 * x5_2)))) x4_1) != 0) = false := bne_eq_false_iff_eq.mpr c7
                  clear c7
                  by_cases c8 : (wrap64 (Int.tdiv (wrap64 ((wrap64 (a0 * a0)) + (wrap64 (x5_2 * x5_2)))) x4_1)) ≥ x4_1
                  · rw [if_pos c8] at H
                    have c8b0 : decide (x4_1 ≤ (wrap64 (Int.tdiv (wrap64 ((wrap64 (a0 * a0)) + (wrap64 (x5_2 * x5_2)))) x4_1))) = true := decide_eq_true c8
                    clear c8
                    replace H := Option.bind_eq_some_iff.mp H
                    obtain ⟨t152, A90, H⟩ := H
                    replace H : (if t152 = true then ((impl_isRoot.f k2 y149).bind fun t153 => (if t153 = true then ((impl_scale.f k2 y149).bind fun t154 => (if t154 = 1 then ((slices_Sort_int_int.f y149).bind fun t155 => (if x3_2.length < 5864062014805 then (impl_rootsWith.l1 k2 a0 (x3_2 ++ [t155]) x4_1 (wrap64 (x5_2 + 1))) else (none))) else (impl_rootsWith.l1 k2 a0 x3_2 x4_1 (wrap64 (x5_2 + 1))))) else (impl_rootsWith.l1 k2 a0 x3_2 x4_1 (wrap64 (x5_2 + 1))))) else (impl_rootsWith.l1 k2 a0 x3_2 x4_1 (wrap64 (x5_2 + 1)))) = some r := H
                    have A9 := Aside0.mk A90
                    clear A90
                    by_cases c10 : t152 = true
                    · subst c10
                      have H1 : ((impl_isRoot.f k2 y149).bind fun t153 => (if t153 = true then ((impl_scale.f k2 y149).bind fun t154 => (if t154 = 1 then ((slices_Sort_int_int.f y149).bind fun t155 => (if x3_2.length < 5864062014805 then (impl_rootsWith.l1 k2 a0 (x3_2 ++ [t155]) x4_1 (wrap64 (x5_2 + 1))) else (none))) else (impl_rootsWith.l1 k2 a0 x3_2 x4_1 (wrap64 (x5_2 + 1))))) else (impl_rootsWith.l1 k2 a0 x3_2 x4_1 (wrap64 (x5_2 + 1))))) = some r := by rw [if_pos rfl] at H; exact H
                      clear H
                      have H := H1
                      clear H1
                      replace H := Option.bind_eq_some_iff.mp H
                      obtain ⟨t153, A110, H⟩ := H
                      replace H : (if t153 = true then ((impl_scale.f k2 y149).bind fun t154 => (if t154 = 1 then ((slices_Sort_int_int.f y149).bind fun t155 => (if x3_2.length < 5864062014805 then (impl_rootsWith.l1 k2 a0 (x3_2 ++ [t155]) x4_1 (wrap64 (x5_2 + 1))) else (none))) else (impl_rootsWith.l1 k2 a0 x3_2 x4_1 (wrap64 (x5_2 + 1))))) else (impl_rootsWith.l1 k2 a0 x3_2 x4_1 (wrap64 (x5_2 + 1)))) = some r := H
                      have A11 := Aside0.mk A110
                      clear A110
                      by_cases c12 : t153 = true
                      · subst c12
                        have H1 : ((impl_scale.f k2 y149).bind fun t154 => (if t154 = 1 then ((slices_Sort_int_int.f y149).bind fun t155 => (if x3_2.length < 5864062014805 then (impl_rootsWith.l1 k2 a0 (x3_2 ++ [t155]) x4_1 (wrap64 (x5_2 + 1))) else (none))) else (impl_rootsWith.l1 k2 a0 x3_2 x4_1 (wrap64 (x5_2 + 1))))) = some r := by rw [if_pos rfl] at H; exact H
                        clear H
                        have H := H1
                        clear H1
                        replace H := Option.bind_eq_some_iff.mp H
                        obtain ⟨t154, A130, H⟩ := H
                        replace H : (if t154 = 1 then ((slices_Sort_int_int.f y149).bind fun t155 => (if x3_2.length < 5864062014805 then (impl_rootsWith.l1 k2 a0 (x3_2 ++ [t155]) x4_1 (wrap64 (x5_2 + 1))) else (none))) else (impl_rootsWith.l1 k2 a0 x3_2 x4_1 (wrap64 (x5_2 + 1)))) = some r := H
                        have A13 := Aside0.mk A130
                        clear A130
                        by_cases c14 : t154 = 1
                        · rw [if_pos c14] at H
                          have c14b0 : (t154 == 1) = true := beq_iff_eq.mpr c14
                          have c14b1 : (t154 != 1) = false := bne_eq_false_iff_eq.mpr c14
                          clear c14
                          replace H := Option.bind_eq_some_iff.mp H
                          obtain ⟨t155, A150, H⟩ := H
                          replace H : (if x3_2.length < 5864062014805 then (impl_rootsWith.l1 k2 a0 (x3_2 ++ [t155]) x4_1 (wrap64 (x5_2 + 1))) else (none)) = some r := H
                          have A15 := Aside0.mk A150
                          clear A150
                          by_cases c16 : x3_2.length < 5864062014805
                          · rw [if_pos c16] at H
                            have LMc16 := Aside0.mk c16
                            clear c16
                            obtain ⟨y156, hy156⟩ : ∃ y_ : List (List Int), y_ = (x3_2 ++ [t155]) := ⟨_, rfl⟩
                            replace H : (impl_rootsWith.l1 k2 a0 y156 x4_1 (wrap64 (x5_2 + 1))) = some r := by first | (rw [hy156]; with_reducible exact H) | (have H2_ := (Option.bind_some _ _).symm.trans H; rw [hy156]; with_reducible exact H2_) | (have H2_ := (Option.bind_some _ _).symm.trans H; with_reducible exact H2_) | with_reducible exact H | (rw [hy156]; exact H) | exact H
                            have Ny156 := Aside0.mk hy156
                            clear hy156
                            have H' := Aside0.mk H
                            clear H
                            go_wp2_with (first | ((with_reducible refine gate_dst (N := 53) rfl ?_); refine Kd.R_lit (Kd.int .i64) _ 3 ?hg (N := 53) ?hd (xs := ([wrap64 (-a0), wrap64 (x4_1 + a0), wrap64 ((wrap64 (Int.tdiv (wrap64 ((wrap64 (a0 * a0)) + (wrap64 (x5_2 * x5_2)))) x4_1)) + a0), wrap64 ((wrap64 ((wrap64 (x4_1 + (wrap64 (Int.tdiv (wrap64 ((wrap64 (a0 * a0)) + (wrap64 (x5_2 * x5_2)))) x4_1)))) + a0)) - (wrap64 (2 * x5_2)))] : List Int)) (inner := [.int .i64 (wrap64 (-a0)), .int .i64 (wrap64 (x4_1 + a0)), .int .i64 (wrap64 ((wrap64 (Int.tdiv (wrap64 ((wrap64 (a0 * a0)) + (wrap64 (x5_2 * x5_2)))) x4_1)) + a0)), .int .i64 (wrap64 ((wrap64 ((wrap64 (x4_1 + (wrap64 (Int.tdiv (wrap64 ((wrap64 (a0 * a0)) + (wrap64 (x5_2 * x5_2)))) x4_1)))) + a0)) - (wrap64 (2 * x5_2))))]) (ok := fun _ => True) (okp := fun _ => True) ?hr ?hp (fun _ hk => hk) trivial (Below.refl _ _) (Nat.le_refl _) (by simp) ?_; (case hd => rfl); (case hg => rfl); (case hr => first | (go_simp; done) | (go_simp; rfl)); (case hp => exact (Reps.one (show Kd.M (Kd.int .i64) _ _ _ (wrap64 (-a0)) [.int .i64 (wrap64 (-a0))] from rfl) (Reps.one (show Kd.M (Kd.int .i64) _ _ _ (wrap64 (x4_1 + a0)) [.int .i64 (wrap64 (x4_1 + a0))] from rfl) (Reps.one (show Kd.M (Kd.int .i64) _ _ _ (wrap64 ((wrap64 (Int.tdiv (wrap64 ((wrap64 (a0 * a0)) + (wrap64 (x5_2 * x5_2)))) x4_1)) + a0)) [.int .i64 (wrap64 ((wrap64 (Int.tdiv (wrap64 ((wrap64 (a0 * a0)) + (wrap64 (x5_2 * x5_2)))) x4_1)) + a0))] from rfl) (Reps.one (show Kd.M (Kd.int .i64) _ _ _ (wrap64 ((wrap64 ((wrap64 (x4_1 + (wrap64 (Int.tdiv (wrap64 ((wrap64 (a0 * a0)) + (wrap64 (x5_2 * x5_2)))) x4_1)))) + a0)) - (wrap64 (2 * x5_2)))) [.int .i64 (wrap64 ((wrap64 ((wrap64 (x4_1 + (wrap64 (Int.tdiv (wrap64 ((wrap64 (a0 * a0)) + (wrap64 (x5_2 * x5_2)))) x4_1)))) + a0)) - (wrap64 (2 * x5_2))))] from rfl) (Reps.none _ _)))))); intro v150 w17 ho18 hb hg_ hnew_; clear hg_ hnew_; (first | rw [← Ny149.out] at ho18 | (simp only [Int.reduceToNat] at ho18; rw [← Ny149.out] at ho18)); have n0_ := Aside0.mk (Kd.S_elder' (by (with_reducible repeat (first | apply Kd.S_alloc | apply Kd.S_drewN | apply Kd.S_drew)); exact HO_3.out) (Kd.R_base ho18) hb); have n1_ := Aside0.mk (Kd.R_lower ho18 (below_size (by repeat (first | (with_reducible first | exact HB.out | apply below_alloc | apply pw_below_drewN | apply below_drew1) | exact HB.out)))); have n2_ := Aside0.mk (below_step (by repeat (first | (with_reducible first | exact HB.out | apply below_alloc | apply pw_below_drewN | apply below_drew1) | exact HB.out)) hb); clear HO_3; clear HB; have HO_3 := n0_; have HO151 := n1_; have HB := n2_; clear n0_ n1_ n2_; clear hb ho18; obtain ⟨Ao19, co19, eo19⟩ := Kd.R_slice HO151.out; subst eo19) | (go_at_call 23; (with_reducible refine (impl_IsQuad.calls k2 _ _ y149 true _ ?side1 ?side2 A9.out).mono ?_); (case side1 => repeat (first | exact (Kd.R_reads' HO151.out).2.2 | (with_reducible refine Kd.C_alloc ?_ _) | (with_reducible refine Kd.C_drewN ?_ _) | (with_reducible refine Kd.C_drew ?_))); (case side2 => exact (Kd.R_reads' HO151.out).2.1); rintro e w20 ⟨rfl, hb⟩; have n0_ := Aside0.mk (Kd.S_below (by (with_reducible repeat (first | apply Kd.S_alloc | apply Kd.S_drewN | apply Kd.S_drew)); exact HO_3.out) hb); have n1_ := Aside0.mk (Kd.R_below (by (with_reducible repeat (first | apply Kd.R_alloc | apply Kd.R_drewN | apply Kd.R_drew)); exact HO151.out) hb); have n2_ := Aside0.mk (below_step (by repeat (first | (with_reducible first | exact HB.out | apply below_alloc | apply pw_below_drewN | apply below_drew1) | exact HB.out)) hb); clear HO_3; clear HO151; clear HB; have HO_3 := n0_; have HO151 := n1_; have HB := n2_; clear n0_ n1_ n2_; (try clear hb); (try clear hb2); (try clear hk); (try clear hi)) | (go_at_call 24; (with_reducible refine (impl_isRoot.calls k2 _ _ y149 true _ ?side1 ?side2 A11.out).mono ?_); (case side1 => repeat (first | exact (Kd.R_reads' HO151.out).2.2 | (with_reducible refine Kd.C_alloc ?_ _) | (with_reducible refine Kd.C_drewN ?_ _) | (with_reducible refine Kd.C_drew ?_))); (case side2 => exact (Kd.R_reads' HO151.out).2.1); rintro e w21 ⟨rfl, hb⟩; have n0_ := Aside0.mk (Kd.S_below (by (with_reducible repeat (first | apply Kd.S_alloc | apply Kd.S_drewN | apply Kd.S_drew)); exact HO_3.out) hb); have n1_ := Aside0.mk (Kd.R_below (by (with_reducible repeat (first | apply Kd.R_alloc | apply Kd.R_drewN | apply Kd.R_drew)); exact HO151.out) hb); have n2_ := Aside0.mk (below_step (by repeat (first | (with_reducible first | exact HB.out | apply below_alloc | apply pw_below_drewN | apply below_drew1) | exact HB.out)) hb); clear HO_3; clear HO151; clear HB; have HO_3 := n0_; have HO151 := n1_; have HB := n2_; clear n0_ n1_ n2_; (try clear hb); (try clear hb2); (try clear hk); (try clear hi)) | (go_at_call 28; (with_reducible refine (impl_scale.calls k2 _ _ y149 t154 _ ?side1 ?side2 A13.out).mono ?_); (case side1 => repeat (first | exact (Kd.R_reads' HO151.out).2.2 | (with_reducible refine Kd.C_alloc ?_ _) | (with_reducible refine Kd.C_drewN ?_ _) | (with_reducible refine Kd.C_drew ?_))); (case side2 => exact (Kd.R_reads' HO151.out).2.1); rintro e w22 ⟨rfl, hb⟩; have n0_ := Aside0.mk (Kd.S_below (by (with_reducible repeat (first | apply Kd.S_alloc | apply Kd.S_drewN | apply Kd.S_drew)); exact HO_3.out) hb); have n1_ := Aside0.mk (Kd.R_below (by (with_reducible repeat (first | apply Kd.R_alloc | apply Kd.R_drewN | apply Kd.R_drew)); exact HO151.out) hb); have n2_ := Aside0.mk (below_step (by repeat (first | (with_reducible first | exact HB.out | apply below_alloc | apply pw_below_drewN | apply below_drew1) | exact HB.out)) hb); clear HO_3; clear HO151; clear HB; have HO_3 := n0_; have HO151 := n1_; have HB := n2_; clear n0_ n1_ n2_; (try clear hb); (try clear hb2); (try clear hk); (try clear hi)) | ((with_reducible refine gate_callee (f := 30) rfl ?_); refine goesL_ (some 77) rfl rfl Try.func30 (by kernel_rfl) rfl #[.slice Ao19 y149.length co19] rfl (by (try simp only [List.map_toArray, List.map_cons, List.map_nil]); first | done | rfl | (simp only [List.length_drop, List.length_take]; rfl)) ?_; (with_reducible refine (slices_Sort_int_int.calls (fun k_ => some k_ = (.slice Ao19 y149.length co19 : Value).ownBlock) (.slice Ao19 y149.length co19) y149 t155 w _ ?side1 ?side2 A15.out).mono ?_); (case side1 => repeat (first | (with_reducible first | exact HB.out | apply below_alloc | apply pw_below_drewN | apply below_drew1) | exact HB.out)); (case side2 => exact Kd.R_tight rfl HO151.out); rintro e w23 ⟨rfl, hy0, hb, hkp⟩; refine ⟨_, rfl, ?_⟩; have n0_ := Aside0.mk (Kd.S_mono (ok' := fun k_ => some k_ ≠ (.slice Ao19 y149.length co19 : Value).ownBlock) (Kd.S_keptB (HO_3.out) hkp (fun k_ hk_ hs_ => (hk_.2) hs_)) (fun k_ hk_ => hk_.1.2)); have n1_ := Aside0.mk (Kd.R_reok rfl hy0 (fun k_ e_ => HO151.out.1 k_ e_)); have n2_ := Aside0.mk (hb); clear HO_3; clear HO151; clear HB; have HO_3 := n0_; have HO151 := n1_; have HB := n2_; clear n0_ n1_ n2_; (try clear hb); (try clear hkp); (try clear hy0)) | ((with_reducible refine gate_builtin (b := .append) (xs := #[.tmp 78, .tmp 80]) rfl ?_); at_builtin; refine Kd.S_append (Kd.slice 3 (Kd.int .i64)) (w0 := w) w.heap.size rfl (.tmp 78) (.tmp 80) 25 29 (.slice none 0 0) 24 rfl Try.underlying25 info29 rfl (by decide) (by omega) u3 x3_2 t155 [.slice Ao19 y149.length co19] (fun _ => True) (fun k_ => some k_ = (.slice Ao19 y149.length co19 : Value).ownBlock) rfl rfl ?aP (fun k_ hk_ => ((Kd.R_mono (ok' := fun k_ => ((fun _ => True)) k_ ∧ some k_ ≠ (u3 : Value).ownBlock) (Kd.R_apart' (HO151.out) (Kd.S_typed HO_3.out) (by decide)) (fun k_ hk => ⟨trivial, hk.2⟩))).1 k_ hk_.symm) ?aF ?aO ?aB ?aS ?aL ?_; (case aP => exact Kd.M_row (Kd.R_mono (Kd.R_tight rfl (Kd.R_mono (ok' := fun k_ => ((fun _ => True)) k_ ∧ some k_ ≠ (u3 : Value).ownBlock) (Kd.R_apart' (HO151.out) (Kd.S_typed HO_3.out) (by decide)) (fun k_ hk => ⟨trivial, hk.2⟩))) (fun _ h_ => h_))); (case aB => exact (by repeat (first | (with_reducible first | exact HB.out | apply below_alloc | apply pw_below_drewN | apply below_drew1) | exact HB.out))); (case aF => exact (fun _ _ => trivial)); (case aO => exact (by (with_reducible repeat (first | apply Kd.S_alloc | apply Kd.S_drewN | apply Kd.S_drew)); exact Kd.S_mono HO_3.out (fun k_ hk => ⟨trivial, fun e_ => hk e_⟩))); (case aS => exact (below_size (by repeat (first | (with_reducible first | exact HB.out | apply below_alloc | apply pw_below_drewN | apply below_drew1) | exact HB.out)))); (case aL => have := LMc16.out; omega); intro v157 w24 ho hb hg hat; rw [← Ny156.out] at ho; have n0_ := Aside0.mk (hb); have n1_ := Aside0.mk (ho); clear HB; clear HO_3; clear HO151; have HB := n0_; have HO158 := n1_; clear n0_ n1_; clear ho hb hg hat))
                            go_roundg k2
                            case measure => have := HK1.out; have := HK2.out; omega
                            case rel => exact ⟨(y156), (wrap64 (x5_2 + 1)), (by first | rfl | (simp; done) | (simp [*]; done)), H', ⟨by have := HK1.out; have := HK2.out; omega⟩, ⟨by (with_reducible repeat (first | apply Kd.S_alloc | apply Kd.S_drewN | apply Kd.S_drew)); exact HO158.out⟩, ⟨by repeat (first | (with_reducible first | exact HB.out | apply below_alloc | apply pw_below_drewN | apply below_drew1) | exact HB.out)⟩⟩
                          · rw [if_neg c16] at H
                            exact absurd H (by simp)
                        · rw [if_neg c14] at H
                          have c14b0 : (t154 == 1) = false := beq_eq_false_iff_ne.mpr c14
                          have c14b1 : (t154 != 1) = true := bne_iff_ne.mpr c14
                          have H' := Aside0.mk H
                          clear H
                          go_wp2_with (first | ((with_reducible refine gate_dst (N := 53) rfl ?_); refine Kd.R_lit (Kd.int .i64) _ 3 ?hg (N := 53) ?hd (xs := ([wrap64 (-a0), wrap64 (x4_1 + a0), wrap64 ((wrap64 (Int.tdiv (wrap64 ((wrap64 (a0 * a0)) + (wrap64 (x5_2 * x5_2)))) x4_1)) + a0), wrap64 ((wrap64 ((wrap64 (x4_1 + (wrap64 (Int.tdiv (wrap64 ((wrap64 (a0 * a0)) + (wrap64 (x5_2 * x5_2)))) x4_1)))) + a0)) - (wrap64 (2 * x5_2)))] : List Int)) (inner := [.int .i64 (wrap64 (-a0)), .int .i64 (wrap64 (x4_1 + a0)), .int .i64 (wrap64 ((wrap64 (Int.tdiv (wrap64 ((wrap64 (a0 * a0)) + (wrap64 (x5_2 * x5_2)))) x4_1)) + a0)), .int .i64 (wrap64 ((wrap64 ((wrap64 (x4_1 + (wrap64 (Int.tdiv (wrap64 ((wrap64 (a0 * a0)) + (wrap64 (x5_2 * x5_2)))) x4_1)))) + a0)) - (wrap64 (2 * x5_2))))]) (ok := fun _ => True) (okp := fun _ => True) ?hr ?hp (fun _ hk => hk) trivial (Below.refl _ _) (Nat.le_refl _) (by simp) ?_; (case hd => rfl); (case hg => rfl); (case hr => first | (go_simp; done) | (go_simp; rfl)); (case hp => exact (Reps.one (show Kd.M (Kd.int .i64) _ _ _ (wrap64 (-a0)) [.int .i64 (wrap64 (-a0))] from rfl) (Reps.one (show Kd.M (Kd.int .i64) _ _ _ (wrap64 (x4_1 + a0)) [.int .i64 (wrap64 (x4_1 + a0))] from rfl) (Reps.one (show Kd.M (Kd.int .i64) _ _ _ (wrap64 ((wrap64 (Int.tdiv (wrap64 ((wrap64 (a0 * a0)) + (wrap64 (x5_2 * x5_2)))) x4_1)) + a0)) [.int .i64 (wrap64 ((wrap64 (Int.tdiv (wrap64 ((wrap64 (a0 * a0)) + (wrap64 (x5_2 * x5_2)))) x4_1)) + a0))] from rfl) (Reps.one (show Kd.M (Kd.int .i64) _ _ _ (wrap64 ((wrap64 ((wrap64 (x4_1 + (wrap64 (Int.tdiv (wrap64 ((wrap64 (a0 * a0)) + (wrap64 (x5_2 * x5_2)))) x4_1)))) + a0)) - (wrap64 (2 * x5_2)))) [.int .i64 (wrap64 ((wrap64 ((wrap64 (x4_1 + (wrap64 (Int.tdiv (wrap64 ((wrap64 (a0 * a0)) + (wrap64 (x5_2 * x5_2)))) x4_1)))) + a0)) - (wrap64 (2 * x5_2))))] from rfl) (Reps.none _ _)))))); intro v150 w25 ho26 hb hg_ hnew_; clear hg_ hnew_; (first | rw [← Ny149.out] at ho26 | (simp only [Int.reduceToNat] at ho26; rw [← Ny149.out] at ho26)); have n0_ := Aside0.mk (Kd.S_elder' (by (with_reducible repeat (first | apply Kd.S_alloc | apply Kd.S_drewN | apply Kd.S_drew)); exact HO_3.out) (Kd.R_base ho26) hb); have n1_ := Aside0.mk (Kd.R_lower ho26 (below_size (by repeat (first | (with_reducible first | exact HB.out | apply below_alloc | apply pw_below_drewN | apply below_drew1) | exact HB.out)))); have n2_ := Aside0.mk (below_step (by repeat (first | (with_reducible first | exact HB.out | apply below_alloc | apply pw_below_drewN | apply below_drew1) | exact HB.out)) hb); clear HO_3; clear HB; have HO_3 := n0_; have HO151 := n1_; have HB := n2_; clear n0_ n1_ n2_; clear hb ho26; obtain ⟨Ao27, co27, eo27⟩ := Kd.R_slice HO151.out; subst eo27) | (go_at_call 23; (with_reducible refine (impl_IsQuad.calls k2 _ _ y149 true _ ?side1 ?side2 A9.out).mono ?_); (case side1 => repeat (first | exact (Kd.R_reads' HO151.out).2.2 | (with_reducible refine Kd.C_alloc ?_ _) | (with_reducible refine Kd.C_drewN ?_ _) | (with_reducible refine Kd.C_drew ?_))); (case side2 => exact (Kd.R_reads' HO151.out).2.1); rintro e w28 ⟨rfl, hb⟩; have n0_ := Aside0.mk (Kd.S_below (by (with_reducible repeat (first | apply Kd.S_alloc | apply Kd.S_drewN | apply Kd.S_drew)); exact HO_3.out) hb); have n1_ := Aside0.mk (Kd.R_below (by (with_reducible repeat (first | apply Kd.R_alloc | apply Kd.R_drewN | apply Kd.R_drew)); exact HO151.out) hb); have n2_ := Aside0.mk (below_step (by repeat (first | (with_reducible first | exact HB.out | apply below_alloc | apply pw_below_drewN | apply below_drew1) | exact HB.out)) hb); clear HO_3; clear HO151; clear HB; have HO_3 := n0_; have HO151 := n1_; have HB := n2_; clear n0_ n1_ n2_; (try clear hb); (try clear hb2); (try clear hk); (try clear hi)) | (go_at_call 24; (with_reducible refine (impl_isRoot.calls k2 _ _ y149 true _ ?side1 ?side2 A11.out).mono ?_); (case side1 => repeat (first | exact (Kd.R_reads' HO151.out).2.2 | (with_reducible refine Kd.C_alloc ?_ _) | (with_reducible refine Kd.C_drewN ?_ _) | (with_reducible refine Kd.C_drew ?_))); (case side2 => exact (Kd.R_reads' HO151.out).2.1); rintro e w29 ⟨rfl, hb⟩; have n0_ := Aside0.mk (Kd.S_below (by (with_reducible repeat (first | apply Kd.S_alloc | apply Kd.S_drewN | apply Kd.S_drew)); exact HO_3.out) hb); have n1_ := Aside0.mk (Kd.R_below (by (with_reducible repeat (first | apply Kd.R_alloc | apply Kd.R_drewN | apply Kd.R_drew)); exact HO151.out) hb); have n2_ := Aside0.mk (below_step (by repeat (first | (with_reducible first | exact HB.out | apply below_alloc | apply pw_below_drewN | apply below_drew1) | exact HB.out)) hb); clear HO_3; clear HO151; clear HB; have HO_3 := n0_; have HO151 := n1_; have HB := n2_; clear n0_ n1_ n2_; (try clear hb); (try clear hb2); (try clear hk); (try clear hi)) | (go_at_call 28; (with_reducible refine (impl_scale.calls k2 _ _ y149 t154 _ ?side1 ?side2 A13.out).mono ?_); (case side1 => repeat (first | exact (Kd.R_reads' HO151.out).2.2 | (with_reducible refine Kd.C_alloc ?_ _) | (with_reducible refine Kd.C_drewN ?_ _) | (with_reducible refine Kd.C_drew ?_))); (case side2 => exact (Kd.R_reads' HO151.out).2.1); rintro e w30 ⟨rfl, hb⟩; have n0_ := Aside0.mk (Kd.S_below (by (with_reducible repeat (first | apply Kd.S_alloc | apply Kd.S_drewN | apply Kd.S_drew)); exact HO_3.out) hb); have n1_ := Aside0.mk (Kd.R_below (by (with_reducible repeat (first | apply Kd.R_alloc | apply Kd.R_drewN | apply Kd.R_drew)); exact HO151.out) hb); have n2_ := Aside0.mk (below_step (by repeat (first | (with_reducible first | exact HB.out | apply below_alloc | apply pw_below_drewN | apply below_drew1) | exact HB.out)) hb); clear HO_3; clear HO151; clear HB; have HO_3 := n0_; have HO151 := n1_; have HB := n2_; clear n0_ n1_ n2_; (try clear hb); (try clear hb2); (try clear hk); (try clear hi)))
                          go_roundg k2
                          case measure => have := HK1.out; have := HK2.out; omega
                          case rel => exact ⟨(x3_2), (wrap64 (x5_2 + 1)), (by first | rfl | (simp; done) | (simp [*]; done)), H', ⟨by have := HK1.out; have := HK2.out; omega⟩, ⟨by (with_reducible repeat (first | apply Kd.S_alloc | apply Kd.S_drewN | apply Kd.S_drew)); exact Kd.S_mono HO_3.out (fun _ hk => trivial)⟩, ⟨by repeat (first | (with_reducible first | exact HB.out | apply below_alloc | apply pw_below_drewN | apply below_drew1) | exact HB.out)⟩⟩
                      · replace c12 := Bool.eq_false_iff.mpr c12
                        subst c12
                        have H1 : (impl_rootsWith.l1 k2 a0 x3_2 x4_1 (wrap64 (x5_2 + 1))) = some r := by rw [if_neg (show ¬ (false = true) by decide)] at H; exact H
                        clear H
                        have H := H1
                        clear H1
                        have H' := Aside0.mk H
                        clear H
                        go_wp2_with (first | ((with_reducible refine gate_dst (N := 53) rfl ?_); refine Kd.R_lit (Kd.int .i64) _ 3 ?hg (N := 53) ?hd (xs := ([wrap64 (-a0), wrap64 (x4_1 + a0), wrap64 ((wrap64 (Int.tdiv (wrap64 ((wrap64 (a0 * a0)) + (wrap64 (x5_2 * x5_2)))) x4_1)) + a0), wrap64 ((wrap64 ((wrap64 (x4_1 + (wrap64 (Int.tdiv (wrap64 ((wrap64 (a0 * a0)) + (wrap64 (x5_2 * x5_2)))) x4_1)))) + a0)) - (wrap64 (2 * x5_2)))] : List Int)) (inner := [.int .i64 (wrap64 (-a0)), .int .i64 (wrap64 (x4_1 + a0)), .int .i64 (wrap64 ((wrap64 (Int.tdiv (wrap64 ((wrap64 (a0 * a0)) + (wrap64 (x5_2 * x5_2)))) x4_1)) + a0)), .int .i64 (wrap64 ((wrap64 ((wrap64 (x4_1 + (wrap64 (Int.tdiv (wrap64 ((wrap64 (a0 * a0)) + (wrap64 (x5_2 * x5_2)))) x4_1)))) + a0)) - (wrap64 (2 * x5_2))))]) (ok := fun _ => True) (okp := fun _ => True) ?hr ?hp (fun _ hk => hk) trivial (Below.refl _ _) (Nat.le_refl _) (by simp) ?_; (case hd => rfl); (case hg => rfl); (case hr => first | (go_simp; done) | (go_simp; rfl)); (case hp => exact (Reps.one (show Kd.M (Kd.int .i64) _ _ _ (wrap64 (-a0)) [.int .i64 (wrap64 (-a0))] from rfl) (Reps.one (show Kd.M (Kd.int .i64) _ _ _ (wrap64 (x4_1 + a0)) [.int .i64 (wrap64 (x4_1 + a0))] from rfl) (Reps.one (show Kd.M (Kd.int .i64) _ _ _ (wrap64 ((wrap64 (Int.tdiv (wrap64 ((wrap64 (a0 * a0)) + (wrap64 (x5_2 * x5_2)))) x4_1)) + a0)) [.int .i64 (wrap64 ((wrap64 (Int.tdiv (wrap64 ((wrap64 (a0 * a0)) + (wrap64 (x5_2 * x5_2)))) x4_1)) + a0))] from rfl) (Reps.one (show Kd.M (Kd.int .i64) _ _ _ (wrap64 ((wrap64 ((wrap64 (x4_1 + (wrap64 (Int.tdiv (wrap64 ((wrap64 (a0 * a0)) + (wrap64 (x5_2 * x5_2)))) x4_1)))) + a0)) - (wrap64 (2 * x5_2)))) [.int .i64 (wrap64 ((wrap64 ((wrap64 (x4_1 + (wrap64 (Int.tdiv (wrap64 ((wrap64 (a0 * a0)) + (wrap64 (x5_2 * x5_2)))) x4_1)))) + a0)) - (wrap64 (2 * x5_2))))] from rfl) (Reps.none _ _)))))); intro v150 w31 ho32 hb hg_ hnew_; clear hg_ hnew_; (first | rw [← Ny149.out] at ho32 | (simp only [Int.reduceToNat] at ho32; rw [← Ny149.out] at ho32)); have n0_ := Aside0.mk (Kd.S_elder' (by (with_reducible repeat (first | apply Kd.S_alloc | apply Kd.S_drewN | apply Kd.S_drew)); exact HO_3.out) (Kd.R_base ho32) hb); have n1_ := Aside0.mk (Kd.R_lower ho32 (below_size (by repeat (first | (with_reducible first | exact HB.out | apply below_alloc | apply pw_below_drewN | apply below_drew1) | exact HB.out)))); have n2_ := Aside0.mk (below_step (by repeat (first | (with_reducible first | exact HB.out | apply below_alloc | apply pw_below_drewN | apply below_drew1) | exact HB.out)) hb); clear HO_3; clear HB; have HO_3 := n0_; have HO151 := n1_; have HB := n2_; clear n0_ n1_ n2_; clear hb ho32; obtain ⟨Ao33, co33, eo33⟩ := Kd.R_slice HO151.out; subst eo33) | (go_at_call 23; (with_reducible refine (impl_IsQuad.calls k2 _ _ y149 true _ ?side1 ?side2 A9.out).mono ?_); (case side1 => repeat (first | exact (Kd.R_reads' HO151.out).2.2 | (with_reducible refine Kd.C_alloc ?_ _) | (with_reducible refine Kd.C_drewN ?_ _) | (with_reducible refine Kd.C_drew ?_))); (case side2 => exact (Kd.R_reads' HO151.out).2.1); rintro e w34 ⟨rfl, hb⟩; have n0_ := Aside0.mk (Kd.S_below (by (with_reducible repeat (first | apply Kd.S_alloc | apply Kd.S_drewN | apply Kd.S_drew)); exact HO_3.out) hb); have n1_ := Aside0.mk (Kd.R_below (by (with_reducible repeat (first | apply Kd.R_alloc | apply Kd.R_drewN | apply Kd.R_drew)); exact HO151.out) hb); have n2_ := Aside0.mk (below_step (by repeat (first | (with_reducible first | exact HB.out | apply below_alloc | apply pw_below_drewN | apply below_drew1) | exact HB.out)) hb); clear HO_3; clear HO151; clear HB; have HO_3 := n0_; have HO151 := n1_; have HB := n2_; clear n0_ n1_ n2_; (try clear hb); (try clear hb2); (try clear hk); (try clear hi)) | (go_at_call 24; (with_reducible refine (impl_isRoot.calls k2 _ _ y149 false _ ?side1 ?side2 A11.out).mono ?_); (case side1 => repeat (first | exact (Kd.R_reads' HO151.out).2.2 | (with_reducible refine Kd.C_alloc ?_ _) | (with_reducible refine Kd.C_drewN ?_ _) | (with_reducible refine Kd.C_drew ?_))); (case side2 => exact (Kd.R_reads' HO151.out).2.1); rintro e w35 ⟨rfl, hb⟩; have n0_ := Aside0.mk (Kd.S_below (by (with_reducible repeat (first | apply Kd.S_alloc | apply Kd.S_drewN | apply Kd.S_drew)); exact HO_3.out) hb); have n1_ := Aside0.mk (Kd.R_below (by (with_reducible repeat (first | apply Kd.R_alloc | apply Kd.R_drewN | apply Kd.R_drew)); exact HO151.out) hb); have n2_ := Aside0.mk (below_step (by repeat (first | (with_reducible first | exact HB.out | apply below_alloc | apply pw_below_drewN | apply below_drew1) | exact HB.out)) hb); clear HO_3; clear HO151; clear HB; have HO_3 := n0_; have HO151 := n1_; have HB := n2_; clear n0_ n1_ n2_; (try clear hb); (try clear hb2); (try clear hk); (try clear hi)))
                        go_roundg k2
                        case measure => have := HK1.out; have := HK2.out; omega
                        case rel => exact ⟨(x3_2), (wrap64 (x5_2 + 1)), (by first | rfl | (simp; done) | (simp [*]; done)), H', ⟨by have := HK1.out; have := HK2.out; omega⟩, ⟨by (with_reducible repeat (first | apply Kd.S_alloc | apply Kd.S_drewN | apply Kd.S_drew)); exact Kd.S_mono HO_3.out (fun _ hk => trivial)⟩, ⟨by repeat (first | (with_reducible first | exact HB.out | apply below_alloc | apply pw_below_drewN | apply below_drew1) | exact HB.out)⟩⟩
                    · replace c10 := Bool.eq_false_iff.mpr c10
                      subst c10
                      have H1 : (impl_rootsWith.l1 k2 a0 x3_2 x4_1 (wrap64 (x5_2 + 1))) = some r := by rw [if_neg (show ¬ (false = true) by decide)] at H; exact H
                      clear H
                      have H := H1
                      clear H1
                      have H' := Aside0.mk H
                      clear H
                      go_wp2_with (first | ((with_reducible refine gate_dst (N := 53) rfl ?_); refine Kd.R_lit (Kd.int .i64) _ 3 ?hg (N := 53) ?hd (xs := ([wrap64 (-a0), wrap64 (x4_1 + a0), wrap64 ((wrap64 (Int.tdiv (wrap64 ((wrap64 (a0 * a0)) + (wrap64 (x5_2 * x5_2)))) x4_1)) + a0), wrap64 ((wrap64 ((wrap64 (x4_1 + (wrap64 (Int.tdiv (wrap64 ((wrap64 (a0 * a0)) + (wrap64 (x5_2 * x5_2)))) x4_1)))) + a0)) - (wrap64 (2 * x5_2)))] : List Int)) (inner := [.int .i64 (wrap64 (-a0)), .int .i64 (wrap64 (x4_1 + a0)), .int .i64 (wrap64 ((wrap64 (Int.tdiv (wrap64 ((wrap64 (a0 * a0)) + (wrap64 (x5_2 * x5_2)))) x4_1)) + a0)), .int .i64 (wrap64 ((wrap64 ((wrap64 (x4_1 + (wrap64 (Int.tdiv (wrap64 ((wrap64 (a0 * a0)) + (wrap64 (x5_2 * x5_2)))) x4_1)))) + a0)) - (wrap64 (2 * x5_2))))]) (ok := fun _ => True) (okp := fun _ => True) ?hr ?hp (fun _ hk => hk) trivial (Below.refl _ _) (Nat.le_refl _) (by simp) ?_; (case hd => rfl); (case hg => rfl); (case hr => first | (go_simp; done) | (go_simp; rfl)); (case hp => exact (Reps.one (show Kd.M (Kd.int .i64) _ _ _ (wrap64 (-a0)) [.int .i64 (wrap64 (-a0))] from rfl) (Reps.one (show Kd.M (Kd.int .i64) _ _ _ (wrap64 (x4_1 + a0)) [.int .i64 (wrap64 (x4_1 + a0))] from rfl) (Reps.one (show Kd.M (Kd.int .i64) _ _ _ (wrap64 ((wrap64 (Int.tdiv (wrap64 ((wrap64 (a0 * a0)) + (wrap64 (x5_2 * x5_2)))) x4_1)) + a0)) [.int .i64 (wrap64 ((wrap64 (Int.tdiv (wrap64 ((wrap64 (a0 * a0)) + (wrap64 (x5_2 * x5_2)))) x4_1)) + a0))] from rfl) (Reps.one (show Kd.M (Kd.int .i64) _ _ _ (wrap64 ((wrap64 ((wrap64 (x4_1 + (wrap64 (Int.tdiv (wrap64 ((wrap64 (a0 * a0)) + (wrap64 (x5_2 * x5_2)))) x4_1)))) + a0)) - (wrap64 (2 * x5_2)))) [.int .i64 (wrap64 ((wrap64 ((wrap64 (x4_1 + (wrap64 (Int.tdiv (wrap64 ((wrap64 (a0 * a0)) + (wrap64 (x5_2 * x5_2)))) x4_1)))) + a0)) - (wrap64 (2 * x5_2))))] from rfl) (Reps.none _ _)))))); intro v150 w36 ho37 hb hg_ hnew_; clear hg_ hnew_; (first | rw [← Ny149.out] at ho37 | (simp only [Int.reduceToNat] at ho37; rw [← Ny149.out] at ho37)); have n0_ := Aside0.mk (Kd.S_elder' (by (with_reducible repeat (first | apply Kd.S_alloc | apply Kd.S_drewN | apply Kd.S_drew)); exact HO_3.out) (Kd.R_base ho37) hb); have n1_ := Aside0.mk (Kd.R_lower ho37 (below_size (by repeat (first | (with_reducible first | exact HB.out | apply below_alloc | apply pw_below_drewN | apply below_drew1) | exact HB.out)))); have n2_ := Aside0.mk (below_step (by repeat (first | (with_reducible first | exact HB.out | apply below_alloc | apply pw_below_drewN | apply below_drew1) | exact HB.out)) hb); clear HO_3; clear HB; have HO_3 := n0_; have HO151 := n1_; have HB := n2_; clear n0_ n1_ n2_; clear hb ho37; obtain ⟨Ao38, co38, eo38⟩ := Kd.R_slice HO151.out; subst eo38) | (go_at_call 23; (with_reducible refine (impl_IsQuad.calls k2 _ _ y149 false _ ?side1 ?side2 A9.out).mono ?_); (case side1 => repeat (first | exact (Kd.R_reads' HO151.out).2.2 | (with_reducible refine Kd.C_alloc ?_ _) | (with_reducible refine Kd.C_drewN ?_ _) | (with_reducible refine Kd.C_drew ?_))); (case side2 => exact (Kd.R_reads' HO151.out).2.1); rintro e w39 ⟨rfl, hb⟩; have n0_ := Aside0.mk (Kd.S_below (by (with_reducible repeat (first | apply Kd.S_alloc | apply Kd.S_drewN | apply Kd.S_drew)); exact HO_3.out) hb); have n1_ := Aside0.mk (Kd.R_below (by (with_reducible repeat (first | apply Kd.R_alloc | apply Kd.R_drewN | apply Kd.R_drew)); exact HO151.out) hb); have n2_ := Aside0.mk (below_step (by repeat (first | (with_reducible first | exact HB.out | apply below_alloc | apply pw_below_drewN | apply below_drew1) | exact HB.out)) hb); clear HO_3; clear HO151; clear HB; have HO_3 := n0_; have HO151 := n1_; have HB := n2_; clear n0_ n1_ n2_; (try clear hb); (try clear hb2); (try clear hk); (try clear hi)))
                      go_roundg k2
                      case measure => have := HK1.out; have := HK2.out; omega
                      case rel => exact ⟨(x3_2), (wrap64 (x5_2 + 1)), (by first | rfl | (simp; done) | (simp [*]; done)), H', ⟨by have := HK1.out; have := HK2.out; omega⟩, ⟨by (with_reducible repeat (first | apply Kd.S_alloc | apply Kd.S_drewN | apply Kd.S_drew)); exact Kd.S_mono HO_3.out (fun _ hk => trivial)⟩, ⟨by repeat (first | (with_reducible first | exact HB.out | apply below_alloc | apply pw_below_drewN | apply below_drew1) | exact HB.out)⟩⟩
                  · rw [if_neg c8] at H
                    have c8b0 : decide (x4_1 ≤ (wrap64 (Int.tdiv (wrap64 ((wrap64 (a0 * a0)) + (wrap64 (x5_2 * x5_2)))) x4_1))) = false := decide_eq_false c8
                    clear c8
                    have H' := Aside0.mk H
                    clear H
                    go_wp2_with (first | ((with_reducible refine gate_dst (N := 53) rfl ?_); refine Kd.R_lit (Kd.int .i64) _ 3 ?hg (N := 53) ?hd (xs := ([wrap64 (-a0), wrap64 (x4_1 + a0), wrap64 ((wrap64 (Int.tdiv (wrap64 ((wrap64 (a0 * a0)) + (wrap64 (x5_2 * x5_2)))) x4_1)) + a0), wrap64 ((wrap64 ((wrap64 (x4_1 + (wrap64 (Int.tdiv (wrap64 ((wrap64 (a0 * a0)) + (wrap64 (x5_2 * x5_2)))) x4_1)))) + a0)) - (wrap64 (2 * x5_2)))] : List Int)) (inner := [.int .i64 (wrap64 (-a0)), .int .i64 (wrap64 (x4_1 + a0)), .int .i64 (wrap64 ((wrap64 (Int.tdiv (wrap64 ((wrap64 (a0 * a0)) + (wrap64 (x5_2 * x5_2)))) x4_1)) + a0)), .int .i64 (wrap64 ((wrap64 ((wrap64 (x4_1 + (wrap64 (Int.tdiv (wrap64 ((wrap64 (a0 * a0)) + (wrap64 (x5_2 * x5_2)))) x4_1)))) + a0)) - (wrap64 (2 * x5_2))))]) (ok := fun _ => True) (okp := fun _ => True) ?hr ?hp (fun _ hk => hk) trivial (Below.refl _ _) (Nat.le_refl _) (by simp) ?_; (case hd => rfl); (case hg => rfl); (case hr => first | (go_simp; done) | (go_simp; rfl)); (case hp => exact (Reps.one (show Kd.M (Kd.int .i64) _ _ _ (wrap64 (-a0)) [.int .i64 (wrap64 (-a0))] from rfl) (Reps.one (show Kd.M (Kd.int .i64) _ _ _ (wrap64 (x4_1 + a0)) [.int .i64 (wrap64 (x4_1 + a0))] from rfl) (Reps.one (show Kd.M (Kd.int .i64) _ _ _ (wrap64 ((wrap64 (Int.tdiv (wrap64 ((wrap64 (a0 * a0)) + (wrap64 (x5_2 * x5_2)))) x4_1)) + a0)) [.int .i64 (wrap64 ((wrap64 (Int.tdiv (wrap64 ((wrap64 (a0 * a0)) + (wrap64 (x5_2 * x5_2)))) x4_1)) + a0))] from rfl) (Reps.one (show Kd.M (Kd.int .i64) _ _ _ (wrap64 ((wrap64 ((wrap64 (x4_1 + (wrap64 (Int.tdiv (wrap64 ((wrap64 (a0 * a0)) + (wrap64 (x5_2 * x5_2)))) x4_1)))) + a0)) - (wrap64 (2 * x5_2)))) [.int .i64 (wrap64 ((wrap64 ((wrap64 (x4_1 + (wrap64 (Int.tdiv (wrap64 ((wrap64 (a0 * a0)) + (wrap64 (x5_2 * x5_2)))) x4_1)))) + a0)) - (wrap64 (2 * x5_2))))] from rfl) (Reps.none _ _)))))); intro v150 w40 ho41 hb hg_ hnew_; clear hg_ hnew_; (first | rw [← Ny149.out] at ho41 | (simp only [Int.reduceToNat] at ho41; rw [← Ny149.out] at ho41)); have n0_ := Aside0.mk (Kd.S_elder' (by (with_reducible repeat (first | apply Kd.S_alloc | apply Kd.S_drewN | apply Kd.S_drew)); exact HO_3.out) (Kd.R_base ho41) hb); have n1_ := Aside0.mk (Kd.R_lower ho41 (below_size (by repeat (first | (with_reducible first | exact HB.out | apply below_alloc | apply pw_below_drewN | apply below_drew1) | exact HB.out)))); have n2_ := Aside0.mk (below_step (by repeat (first | (with_reducible first | exact HB.out | apply below_alloc | apply pw_below_drewN | apply below_drew1) | exact HB.out)) hb); clear HO_3; clear HB; have HO_3 := n0_; have HO151 := n1_; have HB := n2_; clear n0_ n1_ n2_; clear hb ho41))
                    go_roundg k2
                    case measure => have := HK1.out; have := HK2.out; omega
                    case rel => exact ⟨(x3_2), (wrap64 (x5_2 + 1)), (by first | rfl | (simp; done) | (simp [*]; done)), H', ⟨by have := HK1.out; have := HK2.out; omega⟩, ⟨by (with_reducible repeat (first | apply Kd.S_alloc | apply Kd.S_drewN | apply Kd.S_drew)); exact Kd.S_mono HO_3.out (fun _ hk => trivial)⟩, ⟨by repeat (first | (with_reducible first | exact HB.out | apply below_alloc | apply pw_below_drewN | apply below_drew1) | exact HB.out)⟩⟩
                · rw [if_neg c7] at H
                  have c7b0 : ((Int.tmod (wrap64 ((wrap64 (a0 * a0)) + (wrap64 (x5_2 * x5_2)))) x4_1) == 0) = false := beq_eq_false_iff_ne.mpr c7
                  have c7b1 : ((Int.tmod (wrap64 ((wrap64 (a0 * a0)) + (wrap64 (x5_2 * x5_2)))) x4_1) != 0) = true := bne_iff_ne.mpr c7
                  have H' := Aside0.mk H
                  clear H
                  go_wp2_with (first | ((with_reducible refine gate_dst (N := 53) rfl ?_); refine Kd.R_lit (Kd.int .i64) _ 3 ?hg (N := 53) ?hd (xs := ([wrap64 (-a0), wrap64 (x4_1 + a0), wrap64 ((wrap64 (Int.tdiv (wrap64 ((wrap64 (a0 * a0)) + (wrap64 (x5_2 * x5_2)))) x4_1)) + a0), wrap64 ((wrap64 ((wrap64 (x4_1 + (wrap64 (Int.tdiv (wrap64 ((wrap64 (a0 * a0)) + (wrap64 (x5_2 * x5_2)))) x4_1)))) + a0)) - (wrap64 (2 * x5_2)))] : List Int)) (inner := [.int .i64 (wrap64 (-a0)), .int .i64 (wrap64 (x4_1 + a0)), .int .i64 (wrap64 ((wrap64 (Int.tdiv (wrap64 ((wrap64 (a0 * a0)) + (wrap64 (x5_2 * x5_2)))) x4_1)) + a0)), .int .i64 (wrap64 ((wrap64 ((wrap64 (x4_1 + (wrap64 (Int.tdiv (wrap64 ((wrap64 (a0 * a0)) + (wrap64 (x5_2 * x5_2)))) x4_1)))) + a0)) - (wrap64 (2 * x5_2))))]) (ok := fun _ => True) (okp := fun _ => True) ?hr ?hp (fun _ hk => hk) trivial (Below.refl _ _) (Nat.le_refl _) (by simp) ?_; (case hd => rfl); (case hg => rfl); (case hr => first | (go_simp; done) | (go_simp; rfl)); (case hp => exact (Reps.one (show Kd.M (Kd.int .i64) _ _ _ (wrap64 (-a0)) [.int .i64 (wrap64 (-a0))] from rfl) (Reps.one (show Kd.M (Kd.int .i64) _ _ _ (wrap64 (x4_1 + a0)) [.int .i64 (wrap64 (x4_1 + a0))] from rfl) (Reps.one (show Kd.M (Kd.int .i64) _ _ _ (wrap64 ((wrap64 (Int.tdiv (wrap64 ((wrap64 (a0 * a0)) + (wrap64 (x5_2 * x5_2)))) x4_1)) + a0)) [.int .i64 (wrap64 ((wrap64 (Int.tdiv (wrap64 ((wrap64 (a0 * a0)) + (wrap64 (x5_2 * x5_2)))) x4_1)) + a0))] from rfl) (Reps.one (show Kd.M (Kd.int .i64) _ _ _ (wrap64 ((wrap64 ((wrap64 (x4_1 + (wrap64 (Int.tdiv (wrap64 ((wrap64 (a0 * a0)) + (wrap64 (x5_2 * x5_2)))) x4_1)))) + a0)) - (wrap64 (2 * x5_2)))) [.int .i64 (wrap64 ((wrap64 ((wrap64 (x4_1 + (wrap64 (Int.tdiv (wrap64 ((wrap64 (a0 * a0)) + (wrap64 (x5_2 * x5_2)))) x4_1)))) + a0)) - (wrap64 (2 * x5_2))))] from rfl) (Reps.none _ _)))))); intro v150 w42 ho43 hb hg_ hnew_; clear hg_ hnew_; (first | rw [← Ny149.out] at ho43 | (simp only [Int.reduceToNat] at ho43; rw [← Ny149.out] at ho43)); have n0_ := Aside0.mk (Kd.S_elder' (by (with_reducible repeat (first | apply Kd.S_alloc | apply Kd.S_drewN | apply Kd.S_drew)); exact HO_3.out) (Kd.R_base ho43) hb); have n1_ := Aside0.mk (Kd.R_lower ho43 (below_size (by repeat (first | (with_reducible first | exact HB.out | apply below_alloc | apply pw_below_drewN | apply below_drew1) | exact HB.out)))); have n2_ := Aside0.mk (below_step (by repeat (first | (with_reducible first | exact HB.out | apply below_alloc | apply pw_below_drewN | apply below_drew1) | exact HB.out)) hb); clear HO_3; clear HB; have HO_3 := n0_; have HO151 := n1_; have HB := n2_; clear n0_ n1_ n2_; clear hb ho43))
                  go_roundg k2
                  case measure => have := HK1.out; have := HK2.out; omega
                  case rel => exact ⟨(x3_2), (wrap64 (x5_2 + 1)), (by first | rfl | (simp; done) | (simp [*]; done)), H', ⟨by have := HK1.out; have := HK2.out; omega⟩, ⟨by (with_reducible repeat (first | apply Kd.S_alloc | apply Kd.S_drewN | apply Kd.S_drew)); exact Kd.S_mono HO_3.out (fun _ hk => trivial)⟩, ⟨by repeat (first | (with_reducible first | exact HB.out | apply below_alloc | apply pw_below_drewN | apply below_drew1) | exact HB.out)⟩⟩
            · rw [if_neg c5] at H
              have c5b0 : decide ((wrap64 (2 * x5_2)) ≤ x4_1) = false := decide_eq_false c5
              clear c5
              have H' := Aside0.mk H
              clear H
              go_wp2
              go_roundg k2
              case measure => have := HK1.out; have := HK2.out; omega
              case rel => exact ⟨(x3_2), (wrap64 (x4_1 + 1)), (by first | rfl | (simp; done) | (simp [*]; done)), H', ⟨by have := HK1.out; have := HK2.out; omega⟩, ⟨by (with_reducible repeat (first | apply Kd.S_alloc | apply Kd.S_drewN | apply Kd.S_drew)); exact HO_3.out⟩, ⟨by repeat (first | (with_reducible first | exact HB.out | apply below_alloc | apply pw_below_drewN | apply below_drew1) | exact HB.out)⟩⟩
      · rw [if_neg c4] at H
        have c4b0 : decide ((wrap64 ((wrap64 (3 * x4_1)) * x4_1)) ≤ (wrap64 ((wrap64 (4 * a0)) * a0))) = false := decide_eq_false c4
        clear c4
        obtain ⟨m_, hs_, hc_⟩ := Option.bind_eq_some_iff.mp H
        have HSF := Aside0.mk hs_
        have HCF := Aside0.mk hc_
        clear H hs_ hc_
        go_wp2_with (first | (go_at_call 31; (with_reducible refine (slices_SortFunc_int_int.calls (fun _ => True) _ _ _ w _ HB.out HO_3.out HSF.out).mono ?_); rintro e w5 ⟨rfl, hs5, hb5, -⟩; have HS5 := Aside0.mk (Kd.S_mono (ok' := fun _ => True) hs5 (fun _ _ => trivial)); have HB5 := Aside0.mk hb5; clear hs5 hb5) | (go_at_call 33; (with_reducible refine (slices_CompactFunc_int_int.calls (fun _ => True) _ _ _ w _ HB5.out HS5.out HCF.out).mono ?_); rintro e w6 ⟨v6, rfl, hs6, hb6, -⟩; have HS6 := Aside0.mk (Kd.S_mono (ok' := fun _ => True) hs6 (fun _ _ => trivial)); have HB6 := Aside0.mk hb6; clear hs6 hb6))
        go_ret
        exact ⟨_, rfl, HS6.out, HB6.out⟩

/-! ### impl_RootsWith: function 6 -/
def impl_RootsWith.f (k : Nat) (a0 : Int) : Option ((List (List Int)) × Bool) := (impl_within.f a0 1 30).bind fun t159 => (if t159 = true then ((impl_rootsWith.f k a0).bind fun t160 => ((slices_Clone_int_int_19.f t160).bind fun t9_ => (some (t9_, true)))) else (some (([] : List (List Int)), false)))
theorem impl_RootsWith.mono : ∀ a0 k, LeO (impl_RootsWith.f k a0) (impl_RootsWith.f (k + 1) a0) := by
  intro a0 k
  unfold impl_RootsWith.f
  repeat' first
      | (with_reducible exact impl_rootsWith.mono _ _)
      | (with_reducible exact LeO.refl _)
      | (with_reducible exact LeO.none _)
      | (with_reducible refine LeO.ite ?_ ?_)
      | (with_reducible refine LeO.bind ?_ (fun _ => ?_))
      | exact impl_rootsWith.mono _ _
      | exact LeO.none _
      | refine LeO.ite ?_ ?_
      | refine LeO.bind ?_ (fun _ => ?_)
set_option maxHeartbeats 8000000 in
set_option maxRecDepth 100000 in
theorem impl_RootsWith.calls (k : Nat) (a0 : Int) (r1 : List (List Int)) (r2 : Bool) (w : World) (h : impl_RootsWith.f k a0 = some (r1, r2)) :
    Calls Try.prog 6 #[.int .i64 a0] w fun e w' => ∃ v0_ : Value, e = .returned (.tuple #[v0_, .bool r2]) ∧ Kd.S (Kd.slice 3 (Kd.int .i64)) 29 w' w.heap.size (fun _ => True) v0_ r1 ∧ Below w.heap.size w w' := by
  have HB := Aside0.mk (Below.refl w.heap.size w)
  have H : ((impl_within.f a0 1 30).bind fun t159 => (if t159 = true then ((impl_rootsWith.f k a0).bind fun t160 => ((slices_Clone_int_int_19.f t160).bind fun t9_ => (some (t9_, true)))) else (some (([] : List (List Int)), false)))) = some (r1, r2) := h
  clear h
  replace H := Option.bind_eq_some_iff.mp H
  obtain ⟨t159, A20, H⟩ := H
  replace H : (if t159 = true then ((impl_rootsWith.f k a0).bind fun t160 => ((slices_Clone_int_int_19.f t160).bind fun t9_ => (some (t9_, true)))) else (some (([] : List (List Int)), false))) = some (r1, r2) := H
  have A2 := Aside0.mk A20
  clear A20
  by_cases c3 : t159 = true
  · subst c3
    have H1 : ((impl_rootsWith.f k a0).bind fun t160 => ((slices_Clone_int_int_19.f t160).bind fun t9_ => (some (t9_, true)))) = some (r1, r2) := by rw [if_pos rfl] at H; exact H
    clear H
    have H := H1
    clear H1
    replace H := Option.bind_eq_some_iff.mp H
    obtain ⟨t160, A40, H⟩ := H
    replace H : ((slices_Clone_int_int_19.f t160).bind fun t9_ => (some (t9_, true))) = some (r1, r2) := H
    have A4 := Aside0.mk A40
    clear A40
    obtain ⟨t9_, hc_, H⟩ := Option.bind_eq_some_iff.mp H
    have HCL := Aside0.mk hc_
    clear hc_
    simp only [Option.some.injEq, Prod.mk.injEq] at H
    obtain ⟨rfl, rfl⟩ := H
    go_enter Try.func6, Try.ntmps6
    go_wp2_with (first | ((with_reducible refine gate_callee (f := 18) rfl ?_); refine goesL_ (some 5) rfl rfl Try.func18 (by kernel_rfl) rfl #[.int .i64 a0, .int .i64 1, .int .i64 30] rfl (by (try simp only [List.map_toArray, List.map_cons, List.map_nil]); first | done | rfl | (simp only [List.length_drop, List.length_take]; rfl)) ?_; (with_reducible refine (impl_within.calls a0 1 30 true _ A2.out).mono ?_); rintro e w' ⟨rfl, ⟨nd, rfl⟩⟩; refine ⟨_, rfl, ?_⟩) | ((with_reducible refine gate_callee (f := 20) rfl ?_); refine goesL_ (some 8) rfl rfl Try.func20 (by kernel_rfl) rfl #[.int .i64 a0] rfl (by (try simp only [List.map_toArray, List.map_cons, List.map_nil]); first | done | rfl | (simp only [List.length_drop, List.length_take]; rfl)) ?_; (with_reducible refine (impl_rootsWith.calls k a0 t160 _ A4.out).mono ?_); rintro e w5 ⟨v161, rfl, ho0, hb⟩; refine ⟨_, rfl, ?_⟩; have n0_ := Aside0.mk (Kd.S_lower ho0 (below_size (by repeat (first | (with_reducible first | exact HB.out | apply below_alloc | apply pw_below_drewN | apply below_drew1) | exact HB.out)))); have n1_ := Aside0.mk (below_step (by repeat (first | (with_reducible first | exact HB.out | apply below_alloc | apply pw_below_drewN | apply below_drew1) | exact HB.out)) hb); clear HB; have HO162 := n0_; have HB := n1_; clear n0_ n1_; (try clear hb); (try clear hb2); (try clear hk); (try clear hi); (try clear ho0)) | (go_at_call 19; (with_reducible refine (slices_Clone_int_int_19.calls (fun _ => True) _ _ _ w _ HB.out HO162.out HCL.out).mono ?_); rintro e w6 ⟨v6, rfl, hs6, hb6, -⟩; have HS6 := Aside0.mk (Kd.S_mono (ok' := fun _ => True) hs6 (fun _ _ => trivial)); have HB6 := Aside0.mk hb6; clear hs6 hb6; obtain ⟨A6_, c6_, e6_⟩ := Kd.S_slice HS6.out; subst e6_))
    go_ret2
    exact ⟨_, rfl, HS6.out, HB6.out⟩
  · replace c3 := Bool.eq_false_iff.mpr c3
    subst c3
    have H1 : (some (([] : List (List Int)), false)) = some (r1, r2) := by rw [if_neg (show ¬ (false = true) by decide)] at H; exact H
    clear H
    have H := H1
    clear H1
    simp only [Option.some.injEq, Prod.mk.injEq] at H
    obtain ⟨rfl, rfl⟩ := H
    go_enter Try.func6, Try.ntmps6
    go_wp2_with (first | ((with_reducible refine gate_callee (f := 18) rfl ?_); refine goesL_ (some 5) rfl rfl Try.func18 (by kernel_rfl) rfl #[.int .i64 a0, .int .i64 1, .int .i64 30] rfl (by (try simp only [List.map_toArray, List.map_cons, List.map_nil]); first | done | rfl | (simp only [List.length_drop, List.length_take]; rfl)) ?_; (with_reducible refine (impl_within.calls a0 1 30 false _ A2.out).mono ?_); rintro e w' ⟨rfl, ⟨nd, rfl⟩⟩; refine ⟨_, rfl, ?_⟩))
    go_ret2
    exact ⟨_, by first | rfl | (simp [errW_none, errW_some] <;> rfl) | (simp [*, errW_none, errW_some] <;> rfl), by first | exact Kd.S_nil _ _ _ _ _ | exact Kd.N_nil _ _ _ _ _ | exact Kd.V_nil _ _ _ _ _ | exact Kd.Q_nil _ _ _ _ _ | exact Kd.R_nil _ _ _ _ _, by repeat (first | (with_reducible first | exact HB.out | apply below_alloc | apply pw_below_drewN | apply below_drew1) | exact HB.out)⟩

end Go.Proofs.Ytgjgoeodhioeiaa.P
