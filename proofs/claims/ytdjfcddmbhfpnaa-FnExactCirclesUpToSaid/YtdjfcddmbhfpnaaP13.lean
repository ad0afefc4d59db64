/- Written by a program of this session: for Go functions that a statement reaches, Lean functions with the same answers and the proofs that the calls come to them; conditions: none but the arguments' kinds. -/
import Derived.Test.YtdjfcddmbhfpnaaP0
import Derived.Test.YtdjfcddmbhfpnaaP12
namespace Go.Proofs.Ytdjfcddmbhfpnaa.P
open Go.RowKit Go.Proofs.YtdjfcddmbhfpnaaW.PrintWords Go.Proofs.YtdjfcddmbhfpnaaW.PrintLast Go.Proofs.YtdjfcddmbhfpnaaW.PrintMore
attribute [local go_sem] max2_int min2_int max_two min_two max_three min_three max_four min_four   -- for this text's walks alone
set_option linter.unusedVariables false
set_option linter.unusedSimpArgs false

/-! ### impl_isRoot: function 24 -/
def impl_isRoot.l0 : Nat → List Int → List Int → Int → Int → Option (Bool)
  | 0, _, _, _, _ => none
  | k + 1, x0, x5, x6, x7 => if x7 < x6 then (if 0 ≤ x7 then (if x7 < (x5.length : Int) then ((impl_swapped.f k x0 x7).bind fun t301 => (if x7 < (t301.length : Int) then (if (rd t301 x7) < (rd x5 x7) then (some false) else (impl_isRoot.l0 k x0 x5 x6 (wrap64 (x7 + 1)))) else (none))) else (none)) else (none)) else (some true)
def impl_isRoot.f (k : Nat) (l0 : List Int) : Option (Bool) := impl_isRoot.l0 k l0 l0 (l0.length : Int) 0
theorem impl_isRoot.mono_l : ∀ k, (∀ y0 y1 y2 y3, LeO (impl_isRoot.l0 k y0 y1 y2 y3) (impl_isRoot.l0 (k + 1) y0 y1 y2 y3))
  | 0 => fun _ _ _ _ r h => by simp [impl_isRoot.l0] at h
  | k + 1 => by
    have ih0 := impl_isRoot.mono_l k
    · intro y0 y1 y2 y3
      unfold impl_isRoot.l0
      repeat' first
      | (with_reducible exact ih0 _ _ _ _)
      | (with_reducible exact impl_swapped.mono _ _ _)
      | (with_reducible exact LeO.refl _)
      | (with_reducible exact LeO.none _)
      | (with_reducible refine LeO.ite ?_ ?_)
      | (with_reducible refine LeO.bind ?_ (fun _ => ?_))
      | exact ih0 _ _ _ _
      | exact impl_swapped.mono _ _ _
      | exact LeO.none _
      | refine LeO.ite ?_ ?_
      | refine LeO.bind ?_ (fun _ => ?_)
theorem impl_isRoot.mono : ∀ a0 k, LeO (impl_isRoot.f k a0) (impl_isRoot.f (k + 1) a0) := by
  intro a0 k
  have ih0 := impl_isRoot.mono_l k
  unfold impl_isRoot.f
  repeat' first
      | (with_reducible exact ih0 _ _ _ _)
      | (with_reducible exact impl_swapped.mono _ _ _)
      | (with_reducible exact LeO.refl _)
      | (with_reducible exact LeO.none _)
      | (with_reducible refine LeO.ite ?_ ?_)
      | (with_reducible refine LeO.bind ?_ (fun _ => ?_))
      | exact ih0 _ _ _ _
      | exact impl_swapped.mono _ _ _
      | exact LeO.none _
      | refine LeO.ite ?_ ?_
      | refine LeO.bind ?_ (fun _ => ?_)
set_option maxHeartbeats 8000000 in
set_option maxRecDepth 100000 in
theorem impl_isRoot.calls (k : Nat) (A0 : Option Addr) (c0 : Nat) (l0 : List Int) (r : Bool) (w : World) (hr0 : Kd.C (Kd.int .i64) w A0 l0.length l0) (hc0 : l0.length ≤ c0) (h : impl_isRoot.f k l0 = some r) :
    Calls Try.prog 24 #[.slice A0 l0.length c0] w fun e w' => e = .returned (.bool r) ∧ Below w.heap.size w w' := by
  have HR0 := Aside0.mk hr0
  have HC0 := Aside0.mk hc0
  clear hr0 hc0
  have HB := Aside0.mk (Below.refl w.heap.size w)
  have H : (impl_isRoot.l0 k l0 l0 (l0.length : Int) 0) = some r := h
  clear h
  have H' := Aside0.mk H
  clear H
  go_enter Try.func24, Try.ntmps24
  go_wp2
  go_loopg [7] k (fun kq v7 w' => ∃ (x7_1 : Int), v7 = .int .i64 x7_1 ∧ Aside0 (impl_isRoot.l0 kq l0 l0 (l0.length : Int) x7_1 = some r) ∧ Aside0 (kq ≤ k) ∧ Aside0 (Below w.heap.size w w'))
  case atStart => exact ⟨(0), (by first | rfl | (simp; done) | (simp [*]; done)), H', ⟨Nat.le_refl _⟩, ⟨by repeat (first | (with_reducible first | exact HB.out | apply below_alloc | apply pw_below_drewN | apply below_drew1) | exact HB.out)⟩⟩
  case round =>
    clear H'
    obtain ⟨x7_1, rfl, HA, HK1, HB⟩ := hrel
    cases gk with
    | zero => exact absurd HA.out (by simp [impl_isRoot.l0])
    | succ k1 =>
      have H := HA.out
      clear HA
      simp only [impl_isRoot.l0] at H
      by_cases c2 : x7_1 < (l0.length : Int)
      · rw [if_pos c2] at H
        have c2b0 : decide (x7_1 < (l0.length : Int)) = true := decide_eq_true c2
        clear c2
        by_cases c3 : 0 ≤ x7_1
        · rw [if_pos c3] at H
          have c3b0 : decide (0 ≤ x7_1) = true := decide_eq_true c3
          clear c3
          by_cases c4 : x7_1 < (l0.length : Int)
          · rw [if_pos c4] at H
            have c4b0 : decide (x7_1 < (l0.length : Int)) = true := decide_eq_true c4
            clear c4
            replace H := Option.bind_eq_some_iff.mp H
            obtain ⟨t301, A50, H⟩ := H
            replace H : (if x7_1 < (t301.length : Int) then (if (rd t301 x7_1) < (rd l0 x7_1) then (some false) else (impl_isRoot.l0 k1 l0 l0 (l0.length : Int) (wrap64 (x7_1 + 1)))) else (none)) = some r := H
            have A5 := Aside0.mk A50
            clear A50
            by_cases c6 : x7_1 < (t301.length : Int)
            · rw [if_pos c6] at H
              have c6b0 : decide (x7_1 < (t301.length : Int)) = true := decide_eq_true c6
              clear c6
              by_cases c7 : (rd t301 x7_1) < (rd l0 x7_1)
              · rw [if_pos c7] at H
                have c7b0 : decide ((rd t301 x7_1) < (rd l0 x7_1)) = true := decide_eq_true c7
                clear c7
                obtain rfl := Option.some.inj H
                have p300 : 0 ≤ (x7_1 : Int) := of_decide_eq_true (by first | (with_reducible assumption) | assumption)
                have q300 : x7_1 < (l0.length : Int) := of_decide_eq_true (by first | (with_reducible assumption) | assumption)
                obtain ⟨ad300, e300, hx300_0⟩ := Kd.at_int HR0.out x7_1 p300 q300
                cases e300
                replace hx300_0 := (HB.out.cell (World.block_lt_of_cell? w _ hx300_0)).trans hx300_0
                replace p300 := eq_true p300
                replace q300 := eq_true q300
                go_wp2_with (first | ((with_reducible refine gate_callee (f := 39) rfl ?_); refine goesL_ (some 14) rfl rfl Try.func39 (by kernel_rfl) rfl #[.slice (some ad300) l0.length c0, .int .i64 x7_1] rfl (by (try simp only [List.map_toArray, List.map_cons, List.map_nil]); first | done | rfl | (simp only [List.length_drop, List.length_take]; rfl)) ?_; (with_reducible refine (impl_swapped.calls k1 _ _ l0 x7_1 t301 _ ?side1 ?side2 A5.out).mono ?_); (case side1 => repeat (first | exact (Kd.C_below HR0.out HB.out) | (with_reducible refine Kd.C_alloc ?_ _) | (with_reducible refine Kd.C_drewN ?_ _) | (with_reducible refine Kd.C_drew ?_))); (case side2 => exact HC0.out); rintro e w8 ⟨v302, rfl, ho0, hb⟩; refine ⟨_, rfl, ?_⟩; have n0_ := Aside0.mk (Kd.R_lower ho0 (below_size (by repeat (first | (with_reducible first | exact HB.out | apply below_alloc | apply pw_below_drewN | apply below_drew1) | exact HB.out)))); have n1_ := Aside0.mk (below_step (by repeat (first | (with_reducible first | exact HB.out | apply below_alloc | apply pw_below_drewN | apply below_drew1) | exact HB.out)) hb); clear HB; have HO303 := n0_; have HB := n1_; clear n0_ n1_; (try clear hb); (try clear hb2); (try clear hk); (try clear hi); (try clear ho0); obtain ⟨Ao9, co9, eo9⟩ := Kd.R_slice HO303.out; subst eo9; have p304 : 0 ≤ (x7_1 : Int) := of_decide_eq_true (by first | (with_reducible assumption) | assumption); have q304 : x7_1 < (t301.length : Int) := of_decide_eq_true (by first | (with_reducible assumption) | assumption); obtain ⟨ad304, e304, hx304_0⟩ := Kd.at_int (Kd.R_reads' HO303.out).2.2 x7_1 p304 q304; cases e304; replace p304 := eq_true p304; replace q304 := eq_true q304))
                go_ret
                exact ⟨by first | rfl | (simp [errW_none, errW_some] <;> rfl) | (simp [*, errW_none, errW_some] <;> rfl), by repeat (first | (with_reducible first | exact HB.out | apply below_alloc | apply pw_below_drewN | apply below_drew1) | exact HB.out)⟩
              · rw [if_neg c7] at H
                have c7b0 : decide ((rd t301 x7_1) < (rd l0 x7_1)) = false := decide_eq_false c7
                clear c7
                have H' := Aside0.mk H
                clear H
                have p300 : 0 ≤ (x7_1 : Int) := of_decide_eq_true (by first | (with_reducible assumption) | assumption)
                have q300 : x7_1 < (l0.length : Int) := of_decide_eq_true (by first | (with_reducible assumption) | assumption)
                obtain ⟨ad300, e300, hx300_0⟩ := Kd.at_int HR0.out x7_1 p300 q300
                cases e300
                replace hx300_0 := (HB.out.cell (World.block_lt_of_cell? w _ hx300_0)).trans hx300_0
                replace p300 := eq_true p300
                replace q300 := eq_true q300
                go_wp2_with (first | ((with_reducible refine gate_callee (f := 39) rfl ?_); refine goesL_ (some 14) rfl rfl Try.func39 (by kernel_rfl) rfl #[.slice (some ad300) l0.length c0, .int .i64 x7_1] rfl (by (try simp only [List.map_toArray, List.map_cons, List.map_nil]); first | done | rfl | (simp only [List.length_drop, List.length_take]; rfl)) ?_; (with_reducible refine (impl_swapped.calls k1 _ _ l0 x7_1 t301 _ ?side1 ?side2 A5.out).mono ?_); (case side1 => repeat (first | exact (Kd.C_below HR0.out HB.out) | (with_reducible refine Kd.C_alloc ?_ _) | (with_reducible refine Kd.C_drewN ?_ _) | (with_reducible refine Kd.C_drew ?_))); (case side2 => exact HC0.out); rintro e w10 ⟨v302, rfl, ho0, hb⟩; refine ⟨_, rfl, ?_⟩; have n0_ := Aside0.mk (Kd.R_lower ho0 (below_size (by repeat (first | (with_reducible first | exact HB.out | apply below_alloc | apply pw_below_drewN | apply below_drew1) | exact HB.out)))); have n1_ := Aside0.mk (below_step (by repeat (first | (with_reducible first | exact HB.out | apply below_alloc | apply pw_below_drewN | apply below_drew1) | exact HB.out)) hb); clear HB; have HO303 := n0_; have HB := n1_; clear n0_ n1_; (try clear hb); (try clear hb2); (try clear hk); (try clear hi); (try clear ho0); obtain ⟨Ao11, co11, eo11⟩ := Kd.R_slice HO303.out; subst eo11; have p304 : 0 ≤ (x7_1 : Int) := of_decide_eq_true (by first | (with_reducible assumption) | assumption); have q304 : x7_1 < (t301.length : Int) := of_decide_eq_true (by first | (with_reducible assumption) | assumption); obtain ⟨ad304, e304, hx304_0⟩ := Kd.at_int (Kd.R_reads' HO303.out).2.2 x7_1 p304 q304; cases e304; replace p304 := eq_true p304; replace q304 := eq_true q304))
                go_roundg k1
                case measure => have := HK1.out; omega
                case rel => exact ⟨(wrap64 (x7_1 + 1)), (by first | rfl | (simp; done) | (simp [*]; done)), H', ⟨by have := HK1.out; omega⟩, ⟨by repeat (first | (with_reducible first | exact HB.out | apply below_alloc | apply pw_below_drewN | apply below_drew1) | exact HB.out)⟩⟩
            · rw [if_neg c6] at H
              exact absurd H (by simp)
          · rw [if_neg c4] at H
            exact absurd H (by simp)
        · rw [if_neg c3] at H
          exact absurd H (by simp)
      · rw [if_neg c2] at H
        have c2b0 : decide (x7_1 < (l0.length : Int)) = false := decide_eq_false c2
        clear c2
        obtain rfl := Option.some.inj H
        go_wp2
        go_ret
        exact ⟨by first | rfl | (simp [errW_none, errW_some] <;> rfl) | (simp [*, errW_none, errW_some] <;> rfl), by repeat (first | (with_reducible first | exact HB.out | apply below_alloc | apply pw_below_drewN | apply below_drew1) | exact HB.out)⟩

/-! ### slices_Min_int_int: function 25 -/
def slices_Min_int_int.f (l0 : List Int) : Option Int := match l0 with
  | [] => none
  | x :: xs => some (xs.foldl min x)
set_option maxHeartbeats 4000000 in
theorem slices_Min_int_int.calls (A0 : Option Addr) (c0 : Nat) (l0 : List Int) (r : Int) (w : World) (hr0 : Kd.C (Kd.int .i64) w A0 l0.length l0) (hc0 : l0.length ≤ c0) (h : slices_Min_int_int.f l0 = some r) :
    Calls Try.prog 25 #[.slice A0 l0.length c0] w fun e w' => e = .returned (.int .i64 r) ∧ Drawn0 w w' := by
  obtain ⟨x, xs, rfl, hr⟩ : ∃ x xs, l0 = x :: xs ∧ r = xs.foldl min x := by
    cases l0 with
    | nil => simp [slices_Min_int_int.f] at h
    | cons x xs => exact ⟨x, xs, rfl, (Option.some.inj h).symm⟩
  subst hr
  clear h
  have HR0 := Aside0.mk hr0
  have hmx : (x :: xs).length ≤ 9223372036854775807 := hr0.2.1
  have hst : ∀ kk : Nat, kk < xs.length → (xs.take (kk + 1)).foldl min x = min ((xs.take kk).foldl min x) (rd (x :: xs) ((kk : Int) + 1)) := by
    intro kk hk
    rw [List.take_succ_eq_append_getElem hk, List.foldl_append]
    simp [rd, List.getD_eq_getElem?_getD, show ((kk : Int) + 1).toNat = kk + 1 by omega, List.getElem?_eq_getElem hk]
  have HST := Aside0.mk hst
  have hal : (xs.take xs.length).foldl min x = xs.foldl min x := by rw [List.take_length]
  have HAL := Aside0.mk hal
  obtain ⟨ad0, e0, hcell0⟩ := Kd.at_int hr0 (0 : Int) (by omega) (by simp only [List.length_cons]; omega)
  have hx0 : rd (x :: xs) 0 = x := rfl
  rw [hx0] at hcell0
  replace hcell0 : w.cell? ad0 = some (.int .i64 x) := hcell0
  cases e0
  clear hr0 hst hal
  have hne : ¬ (((x :: xs).length : Int) < 1) := by simp only [List.length_cons]; omega
  have hpos : (0 : Int) < (((x :: xs).length : Nat) : Int) := by simp only [List.length_cons]; omega
  generalize hn : (x :: xs).length = n at *
  have HN := Aside0.mk (show n = xs.length + 1 by simpa using hn.symm)
  have hneb : decide ((n : Int) < 1) = false := decide_eq_false hne
  clear hn hx0 hc0
  go_enter Try.func25, Try.ntmps25
  go_wp2
  go_loopg [3, 4] n (fun gg s3 s4 wr => ∃ (ix m : Int) (kk q : Nat), Aside0 (ix = (kk : Int) + 1 ∧ m = (xs.take kk).foldl min x ∧ kk ≤ xs.length ∧ xs.length - kk < gg) ∧ s4 = .int .i64 ix ∧ s3 = .int .i64 m ∧ wr = w.drewN q)
  case atStart =>
    have hn' := HN.out
    exact ⟨1, x, 0, 0, ⟨by omega, rfl, Nat.zero_le _, by omega⟩, rfl, rfl, rfl⟩
  case round =>
    obtain ⟨ix, m, kk, q, hA, rfl, rfl, rfl⟩ := hrel
    by_cases hlt : kk < xs.length
    · obtain ⟨hix, hm, hkk, hg⟩ := hA.out
      have hn' := HN.out
      have hltz : ix < (n : Int) := by omega
      have hz : 0 ≤ ix := by omega
      have hup : ix + 1 ≤ 9223372036854775807 := by omega
      obtain ⟨ad, e1, hcell⟩ := Kd.at_int HR0.out ix hz hltz
      cases e1
      have hs := Aside0.mk (HST.out kk hlt)
      rw [← hix, ← hm] at hs
      generalize rd (x :: xs) ix = y at hcell hs
      by_cases hc : y < m
      · have hs' := Aside0.mk (hs.out.trans (show min m y = y by rw [Int.min_def]; split <;> omega))
        clear hs
        clear hn' hm hix hkk hg
        go_wp2
        go_roundg (n - (kk + 1))
        case measure =>
          have hn' := HN.out
          have h4 := hA.out.2.2.2
          omega
        case rel =>
          have hn' := HN.out
          have h1 := hA.out.1
          exact ⟨ix + 1, _, kk + 1, _, ⟨by omega, hs'.out.symm, by omega, by omega⟩, by first | rfl | go_num, rfl, rfl⟩
      · have hs' := Aside0.mk (hs.out.trans (show min m y = m by rw [Int.min_def]; split <;> omega))
        clear hs
        clear hn' hm hix hkk hg
        go_wp2
        go_roundg (n - (kk + 1))
        case measure =>
          have hn' := HN.out
          have h4 := hA.out.2.2.2
          omega
        case rel =>
          have hn' := HN.out
          have h1 := hA.out.1
          exact ⟨ix + 1, _, kk + 1, _, ⟨by omega, hs'.out.symm, by omega, by omega⟩, by first | rfl | go_num, rfl, rfl⟩
    · obtain ⟨hix, hm, hkk, hg⟩ := hA.out
      have hn' := HN.out
      have hltz : ¬ ix < (n : Int) := by omega
      obtain rfl : kk = xs.length := by omega
      have HAL' := Aside0.mk (hm.trans HAL.out)
      clear hn' hm hix hkk hg
      go_wp2
      go_ret
      exact ⟨by rw [← HAL'.out]; rfl, by repeat (first | exact Drawn0.refl _ | apply Drawn0.step)⟩

/-! ### impl_Circle: function 40 -/
def impl_Circle.f (l0 : List S39) : Option (List S39) := if l0.length < 4398046511104 then some l0 else none
set_option maxHeartbeats 4000000 in
theorem impl_Circle.calls (A0 : Option Addr) (c0 : Nat) (l0 : List S39) (r : List S39) (w : World) (hr0 : Kd.C k39 w A0 l0.length l0) (hc0 : l0.length ≤ c0) (h : impl_Circle.f l0 = some r) :
    Calls Try.prog 40 #[.slice A0 l0.length c0] w fun e w' => ∃ v0_ : Value, e = .returned (v0_) ∧ Kd.R k39 39 w' w.heap.size (fun _ => True) v0_ r ∧ Below w.heap.size w w' := by
  have hl : l0.length < 4398046511104 ∧ l0 = r := by
    unfold impl_Circle.f at h
    split at h
    · exact ⟨by assumption, Option.some.inj h⟩
    · cases h
  obtain ⟨hl, rfl⟩ := hl
  clear h
  have HR0 := Aside0.mk hr0
  have hE : ∀ (W : World) (A : Option Addr) (n c : Nat), (binOp .eql 24 (.slice A n c) (.slice none 0 0)).run Try.prog W = .ok (.bool A.isNone) W := fun W A n c => Lib.run_eql_slice_nil W 24 39 A n c 0 0 Try.underlying24
  have HL := Aside0.mk hl
  have hm := hr0.2.2
  rcases A0 with _ | ad
  · have h0 : l0 = [] := by
      rcases l0 with _ | ⟨x, l⟩
      · rfl
      · obtain ⟨ad, e, _⟩ := hm (by simp)
        cases e
    subst h0
    clear hm hr0 hl
    go_enter Try.func40, Try.ntmps40
    go_wp2
    go_ret
    exact ⟨_, rfl, Kd.R_nil k39 39 _ _ _, Below.refl _ _⟩
  · clear hm hr0 hl
    have hKM : ∀ (W : World) (x : S39) (cs : List Value), k39.K W x cs → k39.M W w.heap.size (fun _ => False) x cs := by
      intro W x cs hK
      obtain rfl := k39_open hK
      exact k39_mkM W _ _ x
    go_enter Try.func40, Try.ntmps40
    go_wp2_with (first | ((with_reducible refine gate_dst (N := 5) rfl ?_); refine Kd.R_lit k39 _ 39 ?hg (N := 5) ?hd (xs := ([] : List S39)) (inner := []) (ok := fun _ => True) (okp := fun _ => True) ?hr ?hp (fun _ hk => hk) trivial (Below.refl _ _) (Nat.le_refl _) (by simp) ?_; (case hd => rfl); (case hg => rfl); (case hr => first | (go_simp; done) | (go_simp; rfl)); (case hp => exact (Reps.none _ _)); intro v1 w2 ho3 hb hg_ hnew_; clear hg_ hnew_; have HO := Aside0.mk ho3; have HB := Aside0.mk hb; have HRb := Aside0.mk (Kd.C_below HR0.out hb); clear ho3 hb HR0) | ((with_reducible refine gate_builtin (b := .append) (xs := #[.tmp 5, .tmp 6]) rfl ?_); at_builtin; refine Kd.R_append_rows k39 (Rr := k39.K w2) (w0 := w) w.heap.size rfl (.tmp 5) (.tmp 6) 24 39 (.agg #[.int .i64 0, .int .i64 0, .int .i64 0, .int .i64 0]) 32 rfl Try.underlying24 info39 rfl (by decide) (by decide) v1 ([] : List S39) l0 (some ad) l0.length c0 (fun _ => True) (fun _ => False) rfl rfl HO.out HRb.out (hKM _) (fun _ hk => hk.elim) (fun _ _ => trivial) HB.out HB.out.size ?aL ?_; (case aL => have := HL.out; simp only [List.length_nil]; omega); intro v2 w3 ho hb hg hat; clear HO HB HRb hg hat; have HO := Aside0.mk ho; have HB := Aside0.mk hb; clear ho hb))
    go_ret
    exact ⟨_, rfl, HO.out, HB.out⟩

end Go.Proofs.Ytdjfcddmbhfpnaa.P
