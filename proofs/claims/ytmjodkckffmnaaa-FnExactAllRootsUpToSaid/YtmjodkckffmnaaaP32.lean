/- Written by a program of this session: for Go functions that a statement reaches, Lean functions with the same answers and the proofs that the calls come to them; conditions: none but the arguments' kinds. -/
import Derived.Test.YtmjodkckffmnaaaP0
namespace Go.Proofs.Ytmjodkckffmnaaa.P
open Go.RowKit Go.Proofs.YtmjodkckffmnaaaW.PrintWords Go.Proofs.YtmjodkckffmnaaaW.PrintLast Go.Proofs.YtmjodkckffmnaaaW.PrintMore
attribute [local go_sem] max2_int min2_int max_two min_two max_three min_three max_four min_four   -- for this text's walks alone
set_option linter.unusedVariables false
set_option linter.unusedSimpArgs false

/-! ### slices_Equal_int_int: function 116 -/
def slices_Equal_int_int.l0 : Nat → List Int → List Int → Int → Int → Option (Bool)
  | 0, _, _, _, _ => none
  | k + 1, x0, x1, x12, x13 => if x13 < x12 then (if 0 ≤ x13 then (if x13 < (x0.length : Int) then (if x13 < (x1.length : Int) then (if (rd x0 x13) = (rd x1 x13) then (slices_Equal_int_int.l0 k x0 x1 x12 (wrap64 (x13 + 1))) else (some false)) else (none)) else (none)) else (none)) else (some true)
def slices_Equal_int_int.f (k : Nat) (l0 : List Int) (l1 : List Int) : Option (Bool) := if (l0.length : Int) = (l1.length : Int) then (slices_Equal_int_int.l0 k l0 l1 (l0.length : Int) 0) else (some false)
theorem slices_Equal_int_int.mono_l : ∀ k, (∀ y0 y1 y2 y3, LeO (slices_Equal_int_int.l0 k y0 y1 y2 y3) (slices_Equal_int_int.l0 (k + 1) y0 y1 y2 y3))
  | 0 => fun _ _ _ _ r h => by simp [slices_Equal_int_int.l0] at h
  | k + 1 => by
    have ih0 := slices_Equal_int_int.mono_l k
    · intro y0 y1 y2 y3
      unfold slices_Equal_int_int.l0
      repeat' first
      | (with_reducible exact ih0 _ _ _ _)
      | (with_reducible exact LeO.refl _)
      | (with_reducible exact LeO.none _)
      | (with_reducible refine LeO.ite ?_ ?_)
      | (with_reducible refine LeO.bind ?_ (fun _ => ?_))
      | exact ih0 _ _ _ _
      | exact LeO.none _
      | refine LeO.ite ?_ ?_
      | refine LeO.bind ?_ (fun _ => ?_)
theorem slices_Equal_int_int.mono : ∀ a0 a1 k, LeO (slices_Equal_int_int.f k a0 a1) (slices_Equal_int_int.f (k + 1) a0 a1) := by
  intro a0 a1 k
  have ih0 := slices_Equal_int_int.mono_l k
  unfold slices_Equal_int_int.f
  repeat' first
      | (with_reducible exact ih0 _ _ _ _)
      | (with_reducible exact LeO.refl _)
      | (with_reducible exact LeO.none _)
      | (with_reducible refine LeO.ite ?_ ?_)
      | (with_reducible refine LeO.bind ?_ (fun _ => ?_))
      | exact ih0 _ _ _ _
      | exact LeO.none _
      | refine LeO.ite ?_ ?_
      | refine LeO.bind ?_ (fun _ => ?_)
set_option maxHeartbeats 8000000 in
set_option maxRecDepth 100000 in
theorem slices_Equal_int_int.calls (k : Nat) (A0 : Option Addr) (c0 : Nat) (l0 : List Int) (A1 : Option Addr) (c1 : Nat) (l1 : List Int) (r : Bool) (w : World) (hr0 : Kd.C (Kd.int .i64) w A0 l0.length l0) (hc0 : l0.length ≤ c0) (hr1 : Kd.C (Kd.int .i64) w A1 l1.length l1) (hc1 : l1.length ≤ c1) (h : slices_Equal_int_int.f k l0 l1 = some r) :
    Calls Try.prog 116 #[.slice A0 l0.length c0, .slice A1 l1.length c1] w fun e w' => e = .returned (.bool r) ∧ Drawn0 w w' := by
  have HR0 := Aside0.mk hr0
  have HC0 := Aside0.mk hc0
  clear hr0 hc0
  have HR1 := Aside0.mk hr1
  have HC1 := Aside0.mk hc1
  clear hr1 hc1
  have H : (if (l0.length : Int) = (l1.length : Int) then (slices_Equal_int_int.l0 k l0 l1 (l0.length : Int) 0) else (some false)) = some r := h
  clear h
  by_cases c3 : (l0.length : Int) = (l1.length : Int)
  · rw [if_pos c3] at H
    have c3b0 : ((l0.length : Int) == (l1.length : Int)) = true := beq_iff_eq.mpr c3
    have c3b1 : ((l0.length : Int) != (l1.length : Int)) = false := bne_eq_false_iff_eq.mpr c3
    have c3b2 : (l0.length == l1.length) = true := by first | simpa using c3 | (simp at c3 ⊢; omega)
    clear c3
    have H' := Aside0.mk H
    clear H
    go_enter Try.func116, Try.ntmps116
    go_wp2
    repeat (go_quiet (fail); try go_wp2)
    go_loopg [13] k (fun kq v13 w' => ∃ (x13_1 : Int), v13 = .int .i64 x13_1 ∧ Aside0 (slices_Equal_int_int.l0 kq l0 l1 (l0.length : Int) x13_1 = some r) ∧ Aside0 (kq ≤ k) ∧ Drawn0 w w')
    case atStart => exact ⟨(0), (by first | rfl | (simp; done) | (simp [*]; done)), H', ⟨Nat.le_refl _⟩, by repeat (first | exact Drawn0.refl _ | apply Drawn0.step)⟩
    case round =>
      clear H'
      try clear c1
      try clear p2
      try clear c3
      try clear c3b0
      try clear c3b1
      try clear c3b2
      obtain ⟨x13_1, rfl, HA, HK1, ⟨m1, rfl⟩⟩ := hrel
      cases gk with
      | zero => exact absurd HA.out (by simp [slices_Equal_int_int.l0])
      | succ k1 =>
        have H := HA.out
        clear HA
        simp only [slices_Equal_int_int.l0] at H
        by_cases c4 : x13_1 < (l0.length : Int)
        · rw [if_pos c4] at H
          have c4b0 : decide (x13_1 < (l0.length : Int)) = true := decide_eq_true c4
          clear c4
          by_cases c5 : 0 ≤ x13_1
          · rw [if_pos c5] at H
            have c5b0 : decide (0 ≤ x13_1) = true := decide_eq_true c5
            clear c5
            by_cases c6 : x13_1 < (l0.length : Int)
            · rw [if_pos c6] at H
              have c6b0 : decide (x13_1 < (l0.length : Int)) = true := decide_eq_true c6
              clear c6
              by_cases c7 : x13_1 < (l1.length : Int)
              · rw [if_pos c7] at H
                have c7b0 : decide (x13_1 < (l1.length : Int)) = true := decide_eq_true c7
                clear c7
                by_cases c8 : (rd l0 x13_1) = (rd l1 x13_1)
                · rw [if_pos c8] at H
                  have c8b0 : ((rd l0 x13_1) == (rd l1 x13_1)) = true := beq_iff_eq.mpr c8
                  have c8b1 : ((rd l0 x13_1) != (rd l1 x13_1)) = false := bne_eq_false_iff_eq.mpr c8
                  clear c8
                  have H' := Aside0.mk H
                  clear H
                  have p748 : 0 ≤ (x13_1 : Int) := of_decide_eq_true (by first | (with_reducible assumption) | assumption)
                  have q748 : x13_1 < (l0.length : Int) := of_decide_eq_true (by first | (with_reducible assumption) | assumption)
                  obtain ⟨ad748, e748, hx748_0⟩ := Kd.at_int HR0.out x13_1 p748 q748
                  cases e748
                  replace p748 := eq_true p748
                  replace q748 := eq_true q748
                  have p749 : 0 ≤ (x13_1 : Int) := of_decide_eq_true (by first | (with_reducible assumption) | assumption)
                  have q749 : x13_1 < (l1.length : Int) := of_decide_eq_true (by first | (with_reducible assumption) | assumption)
                  obtain ⟨ad749, e749, hx749_0⟩ := Kd.at_int HR1.out x13_1 p749 q749
                  cases e749
                  replace p749 := eq_true p749
                  replace q749 := eq_true q749
                  go_wp2
                  repeat (go_quiet (fail); try go_wp2)
                  go_roundg k1
                  case measure => have := HK1.out; omega
                  case rel => exact ⟨(wrap64 (x13_1 + 1)), (by first | rfl | (simp; done) | (simp [*]; done)), H', ⟨by have := HK1.out; omega⟩, by repeat (first | exact Drawn0.refl _ | apply Drawn0.step)⟩
                · rw [if_neg c8] at H
                  have c8b0 : ((rd l0 x13_1) == (rd l1 x13_1)) = false := beq_eq_false_iff_ne.mpr c8
                  have c8b1 : ((rd l0 x13_1) != (rd l1 x13_1)) = true := bne_iff_ne.mpr c8
                  obtain rfl := Option.some.inj H
                  have p748 : 0 ≤ (x13_1 : Int) := of_decide_eq_true (by first | (with_reducible assumption) | assumption)
                  have q748 : x13_1 < (l0.length : Int) := of_decide_eq_true (by first | (with_reducible assumption) | assumption)
                  obtain ⟨ad748, e748, hx748_0⟩ := Kd.at_int HR0.out x13_1 p748 q748
                  cases e748
                  replace p748 := eq_true p748
                  replace q748 := eq_true q748
                  have p749 : 0 ≤ (x13_1 : Int) := of_decide_eq_true (by first | (with_reducible assumption) | assumption)
                  have q749 : x13_1 < (l1.length : Int) := of_decide_eq_true (by first | (with_reducible assumption) | assumption)
                  obtain ⟨ad749, e749, hx749_0⟩ := Kd.at_int HR1.out x13_1 p749 q749
                  cases e749
                  replace p749 := eq_true p749
                  replace q749 := eq_true q749
                  go_wp2
                  repeat (go_quiet (fail); try go_wp2)
                  go_ret
                  exact ⟨by first | rfl | (simp; done) | (simp [*]; done), by repeat (first | exact Drawn0.refl _ | apply Drawn0.step)⟩
              · rw [if_neg c7] at H
                exact absurd H (by simp)
            · rw [if_neg c6] at H
              exact absurd H (by simp)
          · rw [if_neg c5] at H
            exact absurd H (by simp)
        · rw [if_neg c4] at H
          have c4b0 : decide (x13_1 < (l0.length : Int)) = false := decide_eq_false c4
          clear c4
          obtain rfl := Option.some.inj H
          go_wp2
          repeat (go_quiet (fail); try go_wp2)
          go_ret
          exact ⟨by first | rfl | (simp; done) | (simp [*]; done), by repeat (first | exact Drawn0.refl _ | apply Drawn0.step)⟩
  · rw [if_neg c3] at H
    have c3b0 : ((l0.length : Int) == (l1.length : Int)) = false := beq_eq_false_iff_ne.mpr c3
    have c3b1 : ((l0.length : Int) != (l1.length : Int)) = true := bne_iff_ne.mpr c3
    have c3b2 : (l0.length == l1.length) = false := by first | simpa using c3 | (simp at c3 ⊢; omega)
    obtain rfl := Option.some.inj H
    go_enter Try.func116, Try.ntmps116
    go_wp2
    repeat (go_quiet (fail); try go_wp2)
    go_ret
    exact ⟨by first | rfl | (simp; done) | (simp [*]; done), by repeat (first | exact Drawn0.refl _ | apply Drawn0.step)⟩

/-! ### slices_CompactFunc_int_int: function 115 -/
theorem slEq_l (l m : List Int) (he : l.length = m.length) (hl : (l.length : Int) ≤ 9223372036854775807) (d : Nat) : ∀ (i k : Nat), i + d = l.length → d < k → l.take i = m.take i → slices_Equal_int_int.l0 k l m (l.length : Int) (i : Int) = some (decide (l = m)) := by
  induction d with
  | zero =>
    intro i k hi hk ht
    obtain ⟨k, rfl⟩ : ∃ q, k = q + 1 := ⟨k - 1, by omega⟩
    simp only [slices_Equal_int_int.l0]
    rw [if_neg (by omega)]
    rw [List.take_of_length_le (by omega), List.take_of_length_le (by omega)] at ht
    simp [ht]
  | succ d ih =>
    intro i k hi hk ht
    obtain ⟨k, rfl⟩ : ∃ q, k = q + 1 := ⟨k - 1, by omega⟩
    have h1 : i < l.length := by omega
    have h2 : i < m.length := by omega
    have r1 : rd l (i : Int) = l[i] := by simp [rd, List.getD_eq_getElem?_getD, List.getElem?_eq_getElem h1]
    have r2 : rd m (i : Int) = m[i] := by simp [rd, List.getD_eq_getElem?_getD, List.getElem?_eq_getElem h2]
    simp only [slices_Equal_int_int.l0]
    rw [if_pos (by omega), if_pos (by omega), if_pos (by omega), if_pos (by omega), r1, r2]
    by_cases hx : l[i] = m[i]
    · rw [if_pos hx, show wrap64 ((i : Int) + 1) = ((i + 1 : Nat) : Int) by unfold wrap64; omega]
      exact ih (i + 1) k (by omega) (by omega) (by rw [List.take_succ_eq_append_getElem h1, List.take_succ_eq_append_getElem h2, ht, hx])
    · rw [if_neg hx]
      have : l ≠ m := fun e => hx (by subst e; rfl)
      simp [this]
theorem slEq_f (l m : List Int) (hl : (l.length : Int) ≤ 9223372036854775807) : slices_Equal_int_int.f (l.length + 1) l m = some (decide (l = m)) := by
  unfold slices_Equal_int_int.f
  by_cases he : l.length = m.length
  · rw [if_pos (by omega)]
    exact slEq_l l m he hl l.length 0 _ (by omega) (by omega) (by simp)
  · rw [if_neg (by omega)]
    have : l ≠ m := fun e => he (by rw [e])
    simp [this]
/-- No row is as the one before it. -/
def apartB : List (List Int) → Bool
  | a :: b :: r => !(decide (a = b)) && apartB (b :: r)
  | _ => true
theorem apartB_at : ∀ (l : List (List Int)) (i : Nat) (h : i + 1 < l.length), apartB l = true → l[i + 1] ≠ l[i]
  | a :: b :: r, 0, _, hp => by
    simp only [apartB, Bool.and_eq_true, Bool.not_eq_true', decide_eq_false_iff_not] at hp
    exact fun e => hp.1 e.symm
  | a :: b :: r, i + 1, h, hp => by
    simp only [apartB, Bool.and_eq_true] at hp
    exact apartB_at (b :: r) i (by simpa using h) hp.2
def slices_CompactFunc_int_int.f (l0 : List (List Int)) : Option (List (List Int)) := if apartB l0 = true then some l0 else none
set_option maxHeartbeats 8000000 in
set_option maxRecDepth 100000 in
theorem slices_CompactFunc_int_int.calls (P0_ : Nat → Prop) (u9000_ : Value) (l0 r : List (List Int)) (w0 w : World) (hB : Below w0.heap.size w0 w) (ho0 : Kd.S (Kd.slice 3 (Kd.int .i64)) 22 w w0.heap.size P0_ u9000_ l0) (h : slices_CompactFunc_int_int.f l0 = some r) :
    Calls Try.prog 115 #[u9000_, .func (.func 116) #[] #[]] w fun e w' => ∃ v0_ : Value, e = .returned (v0_) ∧ Kd.S (Kd.slice 3 (Kd.int .i64)) 22 w' w0.heap.size (fun k_ => (P0_ k_ ∨ w.heap.size ≤ k_)) v0_ r ∧ Below w0.heap.size w0 w' ∧ Kept w w' (fun k_ => P0_ k_) := by
  have hl : apartB l0 = true ∧ l0 = r := by
    unfold slices_CompactFunc_int_int.f at h
    split at h
    · rename_i h1; exact ⟨h1, Option.some.inj h⟩
    · cases h
  obtain ⟨hp, rfl⟩ := hl
  have AP := Aside0.mk hp
  have HS := Aside0.mk (Kd.S_mono ho0 (ok' := fun k_ => (P0_ k_ ∨ w.heap.size ≤ k_)) (fun _ hk => .inl hk))
  have HB := Aside0.mk hB
  have HK := Aside0.mk (Kept.refl w (fun k_ => P0_ k_))
  clear h hp ho0 hB
  have eg := enters_of Try.func116 (by kernel_rfl) rfl
  obtain ⟨Au, cu, eu⟩ := Kd.S_slice HS.out
  subst eu
  have LM := Aside0.mk (show l0.length ≤ 9223372036854775807 from (Kd.S_reads' HS.out).2.2.2.1)
  by_cases h2 : (l0.length : Int) < 2
  · have hb0 : decide ((l0.length : Int) < 2) = true := decide_eq_true h2
    have hb1 : decide (l0.length < 2) = true := decide_eq_true (by omega)
    go_enter Try.func115, Try.ntmps115
    go_wp2
    go_ret
    exact ⟨_, rfl, HS.out, HB.out, HK.out⟩
  · have hb0 : decide ((l0.length : Int) < 2) = false := decide_eq_false h2
    have hb1 : decide (l0.length < 2) = false := decide_eq_false (by omega)
    go_enter Try.func115, Try.ntmps115
    go_wp2
    go_loopg [5] l0.length (fun gq v5 wr => ∃ j : Nat, v5 = .int .i64 ((j : Int) + 1) ∧ j + 1 ≤ l0.length ∧ j + gq = l0.length ∧ Aside0 (Kd.S (Kd.slice 3 (Kd.int .i64)) 22 wr w0.heap.size (fun k_ => (P0_ k_ ∨ w.heap.size ≤ k_)) (.slice Au l0.length cu) l0) ∧ Aside0 (Kept w wr (fun k_ => P0_ k_)) ∧ Aside0 (Below w0.heap.size w0 wr))
    case atStart => exact ⟨0, rfl, by omega, by omega, HS, HK, HB⟩
    case round =>
      clear HS HK HB
      obtain ⟨j, rfl, hk2, hkg, HS, HK, HB⟩ := hrel
      cases gk with
      | zero => omega
      | succ g1 =>
        by_cases hlt : (j : Int) + 1 < (l0.length : Int)
        · have hlb : decide ((j : Int) + 1 < (l0.length : Int)) = true := decide_eq_true hlt
          have hlb2 : decide (j + 1 < l0.length) = true := decide_eq_true (by omega)
          obtain ⟨ad, A1, c1, e1, hx1, hl1, hi1⟩ := at_L1 (Kd.S_reads' HS.out).2.2 ((j : Int) + 1) (by omega) (by omega)
          subst e1
          obtain ⟨ad2, A2, c2, e2, hx2, hl2, hi2⟩ := at_L1 (Kd.S_reads' HS.out).2.2 (j : Int) (by omega) (by omega)
          cases e2
          have hne : rd_L1 l0 ((j : Int) + 1) ≠ rd_L1 l0 (j : Int) := by
            have h1 := apartB_at l0 j (by omega) AP.out
            have e1 : rd_L1 l0 ((j : Int) + 1) = l0[j + 1]'(by omega) := by
              simp [rd_L1, List.getD_eq_getElem?_getD, show ((j : Int) + 1).toNat = j + 1 by omega, List.getElem?_eq_getElem (show j + 1 < l0.length by omega)]
            have e2 : rd_L1 l0 (j : Int) = l0[j]'(by omega) := by
              simp [rd_L1, List.getD_eq_getElem?_getD, List.getElem?_eq_getElem (show j < l0.length by omega)]
            rw [e1, e2]
            exact h1
          have hq := slEq_f (rd_L1 l0 ((j : Int) + 1)) (rd_L1 l0 (j : Int))
          generalize rd_L1 l0 ((j : Int) + 1) = a at hx1 hl1 hi1 hne hq
          generalize rd_L1 l0 (j : Int) = b at hx2 hl2 hi2 hne hq
          rw [decide_eq_false hne] at hq
          have HQ := Aside0.mk (hq (by have := hi1.2.1; omega))
          have HI1 := Aside0.mk hi1
          have HI2 := Aside0.mk hi2
          have HL1 := Aside0.mk hl1
          have HL2 := Aside0.mk hl2
          clear hq hne hi1 hi2 hl1 hl2
          have w1_ : IntKind.i64.wrap (j : Int) = (j : Int) := by rw [i64_w]; unfold wrap64; have := LM.out; omega
          have w2_ : (0 ≤ (j : Int) + 1) = True := eq_true (by omega)
          have w3_ : ((j : Int) < (l0.length : Int)) = True := eq_true (by omega)
          have w5_ : ((j : Int) + 1 < (l0.length : Int)) = True := eq_true hlt
          have w6_ : (j < l0.length) = True := eq_true (by omega)
          have w7_ : (j + 1 < l0.length) = True := eq_true (by omega)
          have w8_ : ((j : Int) + 1).toNat = j + 1 := by omega
          obtain ⟨g, rfl⟩ := Kd.R_head (Kd.S_R HS.out)
          rw [w8_, add_plain] at hx1
          rw [Int.toNat_natCast, add_plain] at hx2
          go_wp2
          go_quiet ((go_at_call 116; refine (slices_Equal_int_int.calls (a.length + 1) A1 c1 a A2 c2 b false _ (by repeat (first | exact HI1.out | apply Kd.C_drewN | apply Kd.C_drew)) HL1.out (by repeat (first | exact HI2.out | apply Kd.C_drewN | apply Kd.C_drew)) HL2.out HQ.out).mono ?_; rintro e w' ⟨rfl, ⟨nd, rfl⟩⟩; exact ⟨rfl, _, World.drewN_drewN _ _ _⟩))
          clear w1_ w2_ w3_ w5_ w6_ w7_ w8_
          have hm_ : (l0.length : Int) ≤ 9223372036854775807 := by have := LM.out; omega
          go_wp2
          go_roundg g1
          case measure => omega
          case rel => exact ⟨j + 1, by first | rfl | go_num, by omega, by omega, ⟨Kd.S_drewN HS.out _⟩, ⟨Kept.drewN HK.out _⟩, ⟨pw_below_drewN HB.out _⟩⟩
        · have hlb : decide ((j : Int) + 1 < (l0.length : Int)) = false := decide_eq_false hlt
          have hlb2 : decide (j + 1 < l0.length) = false := decide_eq_false (by omega)
          go_wp2
          go_ret
          exact ⟨_, rfl, HS.out, HB.out, HK.out⟩

end Go.Proofs.Ytmjodkckffmnaaa.P
