/- Written by a program of this session: for Go functions that a statement reaches, Lean functions with the same answers and the proofs that the calls come to them; conditions: none but the arguments' kinds. -/
import Derived.Test.YtmjodkckffmnaaaP0
import Derived.Test.YtmjodkckffmnaaaP2
import Derived.Test.YtmjodkckffmnaaaP14
import Derived.Test.YtmjodkckffmnaaaP27
namespace Go.Proofs.Ytmjodkckffmnaaa.P
open Go.RowKit Go.Proofs.YtmjodkckffmnaaaW.PrintWords Go.Proofs.YtmjodkckffmnaaaW.PrintLast Go.Proofs.YtmjodkckffmnaaaW.PrintMore
attribute [local go_sem] max2_int min2_int max_two min_two max_three min_three max_four min_four   -- for this text's walks alone
set_option linter.unusedVariables false
set_option linter.unusedSimpArgs false

/-! ### impl_circles: function 111 -/
set_option maxHeartbeats 8000000 in
set_option maxRecDepth 100000 in
/-- visit: the number is put behind the list in the box. -/
theorem packedVisit.calls (P0_ : Nat → Prop) (B : Nat) (v : Value) (l0 : List Int) (x : Int) (w0 w : World) (hB : Below w0.heap.size w0 w) (hPB : P0_ B) (hGE : w0.heap.size ≤ B) (hbox : w.heap[B]? = some (.cells #[v] 22 (0, 0)))
    (ho0 : Kd.R (Kd.int .i64) 3 w w0.heap.size P0_ v l0) (hl : l0.length < 17592186044416) :
    Calls Try.prog 110 #[.int .i64 x, .pointer (some ⟨B, 0, none⟩)] w fun e w' => e = .returned (.tuple #[]) ∧ ∃ v' : Value, w'.heap[B]? = some (.cells #[v'] 22 (0, 0)) ∧
      Kd.R (Kd.int .i64) 3 w' w0.heap.size (fun k_ => (P0_ k_ ∨ w.heap.size ≤ k_)) v' (l0 ++ [x]) ∧ Below w0.heap.size w0 w' ∧ Kept w w' (fun k_ => P0_ k_) := by
  have HO := Aside0.mk (show Kd.R (Kd.int .i64) 3 w w0.heap.size (fun k_ => (P0_ k_ ∨ w.heap.size ≤ k_)) v l0 from Kd.R_mono ho0 (fun k_ hk => (.inl hk)))
  have HOP := Aside0.mk ho0
  have HB := Aside0.mk hB
  have BK := Aside0.mk hbox
  have GE := Aside0.mk hGE
  have HPB := Aside0.mk hPB
  have LM := Aside0.mk hl
  clear hB hPB hGE hbox ho0 hl
  obtain ⟨Au, cu, eu⟩ := Kd.R_slice HO.out
  subst eu
  have hcz1 : w.cell? ⟨B, 0, none⟩ = some (.slice Au l0.length cu) := (blk_cell BK.out 0).trans rfl
  have hfz1 := blk_frozen BK.out 0
  go_enter Try.func110, Try.ntmps110
  go_wp2_with ((with_reducible refine gate_builtin (b := .append) (xs := #[.tmp 3, .tmp 5]) rfl ?_); at_builtin; refine Kd.R_append (Kd.int .i64) (w0 := w0) w0.heap.size rfl (.tmp 3) (.tmp 5) 22 3 (.int .i64 0) 8 rfl Try.underlying22 info3 rfl (by decide) (by omega) (.slice Au l0.length cu) l0 x [.int .i64 x] (fun k_ => (P0_ k_ ∨ w.heap.size ≤ k_)) (fun _ => False) rfl rfl ?aP (fun _ hk => hk.elim) ?aF ?aO ?aB ?aS ?aL ?_; (case aP => exact rfl); (case aB => exact HB.out); (case aF => exact (fun _ hk => .inr hk)); (case aO => exact HO.out); (case aS => exact below_size HB.out); (case aL => have := LM.out; omega); intro v1 w6 ho hb hg hat; have HK := Aside0.mk (Kept.of_grown hg (Kept.refl w (fun k_ => P0_ k_)) (fun k hk => .inl (HOP.out.1 k hk))); have n1_ := Aside0.mk (blk_grown BK.out hg (Kd.R_ne HO.out BK.out (by decide))); have n2_ := Aside0.mk hb; have n3_ := Aside0.mk ho; clear BK HB HO hcz1 hfz1 ho hb hg hat; have BK := n1_; have HB := n2_; have HO := n3_; clear n1_ n2_ n3_; have hcz3 : w6.cell? ⟨B, 0, none⟩ = some (.slice Au l0.length cu) := (blk_cell BK.out 0).trans rfl; have hfz3 := blk_frozen BK.out 0; obtain ⟨Av, cv, ev⟩ := Kd.R_slice HO.out; subst ev)
  go_end0
  exact ⟨rfl, _, by refine blk_put (cs := #[.slice Au l0.length cu]) ?_ 0 _ (by simp); exact BK.out, Kd.R_mono (Kd.R_far (p := ⟨B, 0, none⟩) (Kd.R_types HO.out BK.out (by decide)) (fun _ hk => hk.2) _) (fun _ hk => hk.1), below_set HB.out GE.out, Kept.setCell HK.out (.inl HPB.out) _⟩
mutual
def impl_circles.l0 : Nat → List Int → List Int → Int → Int → Int → Int → Option (List Int)
  | 0, _, _, _, _, _, _ => none
  | k + 1, x0, x1, x2, x3, x12, x13 => if x13 < x12 then (if x13 = x2 then (impl_circles.l0 k x0 x1 x2 x3 x12 (wrap64 (x13 + 1))) else ((impl_swapped.f k x1 x13).bind fun t667 => (if 0 ≤ x13 then (if x13 < (t667.length : Int) then (if (rd t667 x13) ≤ x3 then (if x0.length < 17592186044416 then ((impl_circles.f k (x0 ++ [rd t667 x13]) t667 x13 x3).bind fun t675 => (impl_circles.l0 k t675 x1 x2 x3 x12 (wrap64 (x13 + 1)))) else (none)) else (impl_circles.l0 k x0 x1 x2 x3 x12 (wrap64 (x13 + 1)))) else (none)) else (none)))) else (some x0)
def impl_circles.f : Nat → List Int → List Int → Int → Int → Option (List Int)
  | 0, _, _, _, _ => none
  | k + 1, l0, l1, a2, a3 => impl_circles.l0 k l0 l1 a2 a3 (l1.length : Int) 0
end
theorem impl_circles.mono_l : ∀ k, (∀ y0 y1 y2 y3, LeO (impl_circles.f k y0 y1 y2 y3) (impl_circles.f (k + 1) y0 y1 y2 y3)) ∧ (∀ y0 y1 y2 y3 y4 y5, LeO (impl_circles.l0 k y0 y1 y2 y3 y4 y5) (impl_circles.l0 (k + 1) y0 y1 y2 y3 y4 y5))
  | 0 => ⟨fun _ _ _ _ r h => by simp [impl_circles.f] at h, fun _ _ _ _ _ _ r h => by simp [impl_circles.l0] at h⟩
  | k + 1 => by
    obtain ⟨ih0, ih1⟩ := impl_circles.mono_l k
    refine ⟨?_, ?_⟩
    · intro y0 y1 y2 y3
      unfold impl_circles.f
      exact ih1 _ _ _ _ _ _
    · intro y0 y1 y2 y3 y4 y5
      unfold impl_circles.l0
      repeat' first
      | (with_reducible exact ih0 _ _ _ _)
      | (with_reducible exact ih1 _ _ _ _ _ _)
      | (with_reducible exact impl_swapped.mono _ _ _)
      | (with_reducible exact LeO.refl _)
      | (with_reducible exact LeO.none _)
      | (with_reducible refine LeO.ite ?_ ?_)
      | (with_reducible refine LeO.bind ?_ (fun _ => ?_))
theorem impl_circles.mono : ∀ a0 a1 a2 a3 k, LeO (impl_circles.f k a0 a1 a2 a3) (impl_circles.f (k + 1) a0 a1 a2 a3) := fun a0 a1 a2 a3 k => (impl_circles.mono_l k).1 a0 a1 a2 a3
set_option maxHeartbeats 8000000 in
set_option maxRecDepth 100000 in
theorem impl_circles.calls (k : Nat) : ∀ (P0_ : Nat → Prop) (B : Nat) (v : Value) (l0 : List Int) (A1 : Option Addr) (c1 : Nat) (l1 : List Int) (a2 : Int) (a3 : Int) (r : List Int) (w0 w : World) (hB : Below w0.heap.size w0 w) (hPB : P0_ B) (hGE : w0.heap.size ≤ B) (hbox : w.heap[B]? = some (.cells #[v] 22 (0, 0)))
    (ho0 : Kd.R (Kd.int .i64) 3 w w0.heap.size P0_ v l0) (hr1 : ∀ W_, Kept w W_ (fun k_ => P0_ k_) → Kd.C (Kd.int .i64) W_ A1 l1.length l1) (hc1 : l1.length ≤ c1) (h : impl_circles.f k l0 l1 a2 a3 = some r),
    Calls Try.prog 111 #[.slice A1 l1.length c1, .int .i64 a2, .int .i64 a3, .func (.func 110) #[] #[.pointer (some ⟨B, 0, none⟩)]] w fun e w' => e = .returned (.tuple #[]) ∧ ∃ v' : Value, w'.heap[B]? = some (.cells #[v'] 22 (0, 0)) ∧
      Kd.R (Kd.int .i64) 3 w' w0.heap.size (fun k_ => (P0_ k_ ∨ w.heap.size ≤ k_)) v' r ∧ Below w0.heap.size w0 w' ∧ Kept w w' (fun k_ => P0_ k_) := by
  have eg : ∀ args w, (callFunc 110 args).run Try.prog w = .ok (.enter 110 args) w := enters_of Try.func110 (by kernel_rfl) rfl
  induction k using Nat.strongRecOn with
  | _ k ih =>
  intro P0_ B v l0 A1 c1 l1 a2 a3 r w0 w hB hPB hGE hbox ho0 hr1 hc1 h
  cases k with
  | zero => exact absurd h (by simp [impl_circles.f])
  | succ k =>
  simp only [impl_circles.f] at h
  have HO := Aside0.mk (show Kd.R (Kd.int .i64) 3 w w0.heap.size (fun k_ => (P0_ k_ ∨ w.heap.size ≤ k_)) v l0 from Kd.R_mono ho0 (fun k_ hk => (.inl hk)))
  have HR1 := Aside0.mk hr1
  have HC1 := Aside0.mk hc1
  have BK := Aside0.mk hbox
  have GE := Aside0.mk hGE
  have HPB := Aside0.mk hPB
  have HK := Aside0.mk (Kept.refl w (fun k_ => P0_ k_))
  have HB := Aside0.mk hB
  clear hr1 hc1 hB hPB hGE hbox ho0
  have H' := Aside0.mk h
  clear h
  go_enter Try.func111, Try.ntmps111
  go_wp2
  go_loopg [12] k (fun kq v12 w' => ∃ (x0_1 : List Int) (x13_1 : Int) (u : Value), v12 = .int .i64 x13_1 ∧ Aside0 (impl_circles.l0 kq x0_1 l1 a2 a3 (l1.length : Int) x13_1 = some r) ∧ Aside0 (kq ≤ k) ∧ Aside0 (w'.heap[B]? = some (.cells #[u] 22 (0, 0))) ∧ Aside0 (Kd.R (Kd.int .i64) 3 w' w0.heap.size (fun k_ => (P0_ k_ ∨ w.heap.size ≤ k_)) u x0_1) ∧ Aside0 (Kept w w' (fun k_ => P0_ k_)) ∧ Aside0 (Below w0.heap.size w0 w'))
  case atStart => exact ⟨l0, 0, v, (by first | rfl | (simp; done) | (simp [*]; done)), H', ⟨Nat.le_refl _⟩, BK, HO, HK, HB⟩
  case round =>
    clear H' BK HO HK HB
    obtain ⟨x0_1, x13_1, u, rfl, HA, HK1, BK, HO, HK, HB⟩ := hrel
    cases gk with
    | zero => exact absurd HA.out (by simp [impl_circles.l0])
    | succ k1 =>
      have H := HA.out
      clear HA
      simp only [impl_circles.l0] at H
      by_cases c5 : x13_1 < (l1.length : Int)
      · rw [if_pos c5] at H
        have c5b0 : decide (x13_1 < (l1.length : Int)) = true := decide_eq_true c5
        clear c5
        by_cases c6 : x13_1 = a2
        · rw [if_pos c6] at H
          have c6b0 : (x13_1 == a2) = true := beq_iff_eq.mpr c6
          clear c6
          have H' := Aside0.mk H
          clear H
          go_wp2
          go_roundg k1
          case measure => have := HK1.out; omega
          case rel => exact ⟨x0_1, wrap64 (x13_1 + 1), u, (by first | rfl | (simp; done) | (simp [*]; done)), H', ⟨by have := HK1.out; omega⟩, BK, HO, HK, HB⟩
        · rw [if_neg c6] at H
          have c6b0 : (x13_1 == a2) = false := beq_eq_false_iff_ne.mpr c6
          clear c6
          replace H := Option.bind_eq_some_iff.mp H
          obtain ⟨t667, A70, H⟩ := H
          have A7 := Aside0.mk A70
          clear A70
          by_cases c8 : 0 ≤ x13_1
          · rw [if_pos c8] at H
            have c8b0 : decide (0 ≤ x13_1) = true := decide_eq_true c8
            clear c8
            by_cases c9 : x13_1 < (t667.length : Int)
            · rw [if_pos c9] at H
              have c9b0 : decide (x13_1 < (t667.length : Int)) = true := decide_eq_true c9
              clear c9
              by_cases c10 : (rd t667 x13_1) ≤ a3
              · rw [if_pos c10] at H
                have c10b0 : decide ((rd t667 x13_1) ≤ a3) = true := decide_eq_true c10
                clear c10
                by_cases c11 : x0_1.length < 17592186044416
                · rw [if_pos c11] at H
                  have LM := Aside0.mk c11
                  clear c11
                  replace H := Option.bind_eq_some_iff.mp H
                  obtain ⟨t675, A120, H⟩ := H
                  have A12 := Aside0.mk A120
                  clear A120
                  have H' := Aside0.mk H
                  clear H
                  have IH := Aside0.mk (ih k1 (by have := HK1.out; omega))
                  clear ih
                  go_wp2_with (first
                    | (go_at_call 87; (with_reducible refine (impl_swapped.calls k1 _ _ l1 x13_1 t667 _ ?side1 ?side2 A7.out).mono ?_); (case side1 => exact Kd.C_kept_now HR1.out HK.out); (case side2 => exact HC1.out); rintro e w13 ⟨v668, rfl, ho0, hb⟩; have n0_ := Aside0.mk (Kd.R_elder' HO.out (Kd.R_base ho0) hb); have n1_ := Aside0.mk (Kd.R_lower ho0 (below_size HB.out)); have n2_ := Aside0.mk (Kept.below HK.out hb); have n3_ := Aside0.mk (below_step HB.out hb); have n4_ := Aside0.mk (blk_below BK.out hb); have n5_ := Aside0.mk (fun k_ (hk : v668.ownBlock = some k_) => Nat.le_trans HK.out.1 (Kd.R_base ho0 k_ hk)); clear HO HK HB BK hb ho0; have HO := n0_; have HT := n1_; have HK := n2_; have HB := n3_; have BK := n4_; have TB := n5_; clear n0_ n1_ n2_ n3_ n4_ n5_; obtain ⟨Ao, co, eo⟩ := Kd.R_slice HT.out; subst eo; have p670 : 0 ≤ (x13_1 : Int) := of_decide_eq_true (by assumption); have q670 : x13_1 < (t667.length : Int) := of_decide_eq_true (by assumption); obtain ⟨ad670, e670, hx670_0⟩ := Kd.at_int (Kd.R_reads' HT.out).2.2 x13_1 p670 q670; cases e670; replace p670 := eq_true p670; replace q670 := eq_true q670)
                    | (go_at_fn 110; refine (packedVisit.calls (fun k_ => (P0_ k_ ∨ w.heap.size ≤ k_) ∧ some k_ ≠ (Value.slice (some ad670) t667.length co).ownBlock) B u x0_1 (rd t667 x13_1) w0 _ HB.out ⟨.inl HPB.out, Kd.R_ne HT.out BK.out (by decide)⟩ GE.out BK.out HO.out LM.out).mono ?_; rintro e w15 ⟨rfl, u2, bk2, ho2, hb2, hk2⟩; have HT1 := Aside0.mk (Kd.C_kept_own (S := fun k_ => ((P0_ k_ ∨ w.heap.size ≤ k_) ∧ some k_ ≠ (Value.slice (some ad670) t667.length co).ownBlock) ∨ w13.heap.size ≤ k_) (Kd.R_bound (Kd.R_tight rfl HT.out)) (fun k_ hk hs => hs.elim (fun h => h.2 hk.1) (fun h => absurd h (by have := hk.2.2.1; omega)))); have HT2 := Aside0.mk (Kd.C_kept_step HT1.out (Kept.mono hk2 (fun k_ hk => .inl hk))); have HPB2 := Aside0.mk (show ((P0_ B ∨ w.heap.size ≤ B) ∧ some B ≠ (Value.slice (some ad670) t667.length co).ownBlock) ∨ w13.heap.size ≤ B from .inl ⟨.inl HPB.out, Kd.R_ne HT.out BK.out (by decide)⟩); have HTC := Aside0.mk (Kd.R_reads' HT.out).2.1; have n2_ := Aside0.mk (Kept.then_ HK.out hk2 (fun k_ hk => hk.1)); have HW := Aside0.mk (show w13.heap.size ≤ w15.heap.size from hk2.1); have HW0 := Aside0.mk (show w.heap.size ≤ w13.heap.size from HK.out.1); clear HO HK HB BK HT HT1 TB hx670_0; have HO := Aside0.mk ho2; have HK := n2_; have HB := Aside0.mk hb2; have BK := Aside0.mk bk2; clear n2_ ho2 hb2 bk2 hk2)
                    | (go_at_call 111; refine (IH.out (fun k_ => ((P0_ k_ ∨ w.heap.size ≤ k_) ∧ some k_ ≠ (Value.slice (some ad670) t667.length co).ownBlock) ∨ w13.heap.size ≤ k_) B u2 (x0_1 ++ [rd t667 x13_1]) (some ad670) co t667 x13_1 a3 t675 w0 _ HB.out HPB2.out GE.out BK.out HO.out HT2.out HTC.out A12.out).mono ?_; rintro e w16 ⟨rfl, u3, bk3, ho3, hb3, hk3⟩; have n2_ := Aside0.mk (Kept.then_ HK.out hk3 (fun k_ hk => hk.elim (fun h => h.1) (fun h => .inr (Nat.le_trans HW0.out h)))); have n3_ := Aside0.mk (Kd.R_mono ho3 (fun k_ hk => show P0_ k_ ∨ w.heap.size ≤ k_ from hk.elim (fun h => h.elim (fun h => h.1) (fun h => .inr (Nat.le_trans HW0.out h))) (fun h => .inr (Nat.le_trans HW0.out (Nat.le_trans HW.out h))))); clear HO HK HB BK; have HO := n3_; have HK := n2_; have HB := Aside0.mk hb3; have BK := Aside0.mk bk3; clear n2_ n3_ ho3 hb3 bk3 hk3))
                  go_roundg k1
                  case measure => have := HK1.out; omega
                  case rel => exact ⟨t675, wrap64 (x13_1 + 1), u3, (by first | rfl | (simp; done) | (simp [*]; done)), H', ⟨by have := HK1.out; omega⟩, BK, HO, HK, HB⟩
                · rw [if_neg c11] at H
                  exact absurd H (by simp)
              · rw [if_neg c10] at H
                have c10b0 : decide ((rd t667 x13_1) ≤ a3) = false := decide_eq_false c10
                clear c10
                have H' := Aside0.mk H
                clear H ih
                go_wp2_with (go_at_call 87; (with_reducible refine (impl_swapped.calls k1 _ _ l1 x13_1 t667 _ ?side1 ?side2 A7.out).mono ?_); (case side1 => exact Kd.C_kept_now HR1.out HK.out); (case side2 => exact HC1.out); rintro e w13 ⟨v668, rfl, ho0, hb⟩; have n0_ := Aside0.mk (Kd.R_elder' HO.out (Kd.R_base ho0) hb); have n1_ := Aside0.mk (Kd.R_lower ho0 (below_size HB.out)); have n2_ := Aside0.mk (Kept.below HK.out hb); have n3_ := Aside0.mk (below_step HB.out hb); have n4_ := Aside0.mk (blk_below BK.out hb); clear HO HK HB BK hb ho0; have HO := n0_; have HT := n1_; have HK := n2_; have HB := n3_; have BK := n4_; clear n0_ n1_ n2_ n3_ n4_; obtain ⟨Ao, co, eo⟩ := Kd.R_slice HT.out; subst eo; have p670 : 0 ≤ (x13_1 : Int) := of_decide_eq_true (by assumption); have q670 : x13_1 < (t667.length : Int) := of_decide_eq_true (by assumption); obtain ⟨ad670, e670, hx670_0⟩ := Kd.at_int (Kd.R_reads' HT.out).2.2 x13_1 p670 q670; cases e670; replace p670 := eq_true p670; replace q670 := eq_true q670)
                go_roundg k1
                case measure => have := HK1.out; omega
                case rel => exact ⟨x0_1, wrap64 (x13_1 + 1), u, (by first | rfl | (simp; done) | (simp [*]; done)), H', ⟨by have := HK1.out; omega⟩, BK, ⟨Kd.R_mono HO.out (fun _ hk => hk.1)⟩, HK, HB⟩
            · rw [if_neg c9] at H
              exact absurd H (by simp)
          · rw [if_neg c8] at H
            exact absurd H (by simp)
      · rw [if_neg c5] at H
        have c5b0 : decide (x13_1 < (l1.length : Int)) = false := decide_eq_false c5
        clear c5
        obtain rfl := Option.some.inj H
        clear H ih
        go_wp2
        go_end0
        exact ⟨rfl, u, BK.out, HO.out, HB.out, HK.out⟩

/-! ### impl_packed: function 92 -/
def impl_packed.l0 : Nat → List Int → List Int → Int → Int → Option (List Int)
  | 0, _, _, _, _ => none
  | k + 1, x0, x1, x2, i => if i < (x1.length : Int) then (if (rd x1 i) ≤ x2 then (if x0.length < 17592186044416 then (impl_packed.l0 k (x0 ++ [rd x1 i]) x1 x2 (wrap64 (i + 1))) else none) else (impl_packed.l0 k x0 x1 x2 (wrap64 (i + 1)))) else ((impl_circles.f k x0 x1 (-1) x2).bind fun o => slices_Sort_int_int.f o)
def impl_packed.f (k : Nat) (l0 : List Int) (a1 : Int) : Option (List Int × Bool) := (impl_RootQuad.f k l0).bind fun b => (if b.2 = true then (if 0 < (b.1.length : Int) then (if (rd b.1 0) ≥ 0 then (some (([] : List Int), false)) else ((impl_within.f a1 1 500).bind fun t => (if t = true then ((impl_packed.l0 k [] b.1 a1 0).bind fun s => (some (s, true))) else (some (([] : List Int), false))))) else none) else (some (([] : List Int), false)))
theorem impl_packed.mono_l : ∀ k, (∀ y0 y1 y2 y3, LeO (impl_packed.l0 k y0 y1 y2 y3) (impl_packed.l0 (k + 1) y0 y1 y2 y3))
  | 0 => fun _ _ _ _ r h => by simp [impl_packed.l0] at h
  | k + 1 => by
    have ih0 := impl_packed.mono_l k
    intro y0 y1 y2 y3
    unfold impl_packed.l0
    repeat' first
      | (with_reducible exact ih0 _ _ _ _)
      | (with_reducible exact impl_circles.mono _ _ _ _ _)
      | (with_reducible exact LeO.refl _)
      | (with_reducible exact LeO.none _)
      | (with_reducible refine LeO.ite ?_ ?_)
      | (with_reducible refine LeO.bind ?_ (fun _ => ?_))
theorem impl_packed.mono : ∀ a0 a1 k, LeO (impl_packed.f k a0 a1) (impl_packed.f (k + 1) a0 a1) := by
  intro a0 a1 k
  unfold impl_packed.f
  repeat' first
      | (with_reducible exact impl_RootQuad.mono _ _)
      | (with_reducible exact impl_packed.mono_l k _ _ _ _)
      | (with_reducible exact LeO.refl _)
      | (with_reducible exact LeO.none _)
      | (with_reducible refine LeO.ite ?_ ?_)
      | (with_reducible refine LeO.bind ?_ (fun _ => ?_))
set_option maxHeartbeats 8000000 in
set_option maxRecDepth 100000 in
theorem impl_packed.calls (k : Nat) (A0 : Option Addr) (c0 : Nat) (l0 : List Int) (a1 : Int) (r1 : List Int) (r2 : Bool) (w : World) (hr0 : Kd.C (Kd.int .i64) w A0 l0.length l0) (hc0 : l0.length ≤ c0) (h : impl_packed.f k l0 a1 = some (r1, r2)) :
    Calls Try.prog 92 #[.slice A0 l0.length c0, .int .i64 a1] w fun e w' => ∃ v0_ : Value, e = .returned (.tuple #[v0_, .bool r2]) ∧ Kd.R (Kd.int .i64) 3 w' w.heap.size (fun _ => True) v0_ r1 ∧ Below w.heap.size w w' := by
  have eg : ∀ args w, (callFunc 110 args).run Try.prog w = .ok (.enter 110 args) w := enters_of Try.func110 (by kernel_rfl) rfl
  have HR0 := Aside0.mk hr0
  have HC0 := Aside0.mk hc0
  clear hr0 hc0
  have HB := Aside0.mk (Below.refl w.heap.size w)
  have H : ((impl_RootQuad.f k l0).bind fun b => (if b.2 = true then (if 0 < (b.1.length : Int) then (if (rd b.1 0) ≥ 0 then (some (([] : List Int), false)) else ((impl_within.f a1 1 500).bind fun t => (if t = true then ((impl_packed.l0 k [] b.1 a1 0).bind fun s => (some (s, true))) else (some (([] : List Int), false))))) else none) else (some (([] : List Int), false)))) = some (r1, r2) := h
  clear h
  replace H := Option.bind_eq_some_iff.mp H
  obtain ⟨⟨rr, rb⟩, A20, H⟩ := H
  replace H : (if rb = true then (if 0 < (rr.length : Int) then (if (rd rr 0) ≥ 0 then (some (([] : List Int), false)) else ((impl_within.f a1 1 500).bind fun t => (if t = true then ((impl_packed.l0 k [] rr a1 0).bind fun s => (some (s, true))) else (some (([] : List Int), false))))) else none) else (some (([] : List Int), false))) = some (r1, r2) := H
  have A2 := Aside0.mk A20
  clear A20
  cases rb with
  | false =>
    rw [if_neg (by decide)] at H
    simp only [Option.some.injEq, Prod.mk.injEq] at H
    obtain ⟨rfl, rfl⟩ := H
    go_enter Try.func92, Try.ntmps92
    go_wp2_with (go_at_call 52; (with_reducible refine (impl_RootQuad.calls k _ _ l0 rr false _ HR0.out HC0.out A2.out).mono ?_); rintro e w1 ⟨v1, rfl, ho, hb⟩; have HB1 := Aside0.mk hb; clear ho hb)
    go_ret2
    exact ⟨_, rfl, Kd.R_nil _ _ _ _ _, HB1.out⟩
  | true =>
    rw [if_pos rfl] at H
    by_cases c1 : 0 < (rr.length : Int)
    · rw [if_pos c1] at H
      have p0 : (0 : Int) ≤ 0 := Int.le_refl _
      have c1b : decide ((0 : Int) < (rr.length : Int)) = true := decide_eq_true c1
      by_cases c2 : (rd rr 0) ≥ 0
      · rw [if_pos c2] at H
        have c2b : decide ((rd rr 0) ≥ 0) = true := decide_eq_true c2
        have c2c : decide (0 ≤ (rd rr 0)) = true := decide_eq_true c2
        clear c2
        simp only [Option.some.injEq, Prod.mk.injEq] at H
        obtain ⟨rfl, rfl⟩ := H
        go_enter Try.func92, Try.ntmps92
        go_wp2_with (go_at_call 52; (with_reducible refine (impl_RootQuad.calls k _ _ l0 rr true _ HR0.out HC0.out A2.out).mono ?_); rintro e w1 ⟨v1, rfl, ho, hb⟩; have HB1 := Aside0.mk hb; have HT := Aside0.mk ho; clear ho hb; obtain ⟨Ao, co, eo⟩ := Kd.R_slice HT.out; subst eo; obtain ⟨ad, e0, hx0⟩ := Kd.at_int (Kd.R_reads' HT.out).2.2 0 p0 c1; cases e0; rw [show ((0 : Int)).toNat = 0 from rfl, Addr.add_zero'] at hx0; have p0t := eq_true p0; have q0t := eq_true c1; have qi0 : (0 < rr.length) = True := eq_true (by omega))
        go_ret2
        exact ⟨_, rfl, Kd.R_nil _ _ _ _ _, HB1.out⟩
      · rw [if_neg c2] at H
        have c2b : decide ((rd rr 0) ≥ 0) = false := decide_eq_false c2
        have c2c : decide (0 ≤ (rd rr 0)) = false := decide_eq_false c2
        clear c2
        replace H := Option.bind_eq_some_iff.mp H
        obtain ⟨wb, A30, H⟩ := H
        have A3 := Aside0.mk A30
        clear A30
        cases wb with
        | false =>
          rw [if_neg (by decide)] at H
          simp only [Option.some.injEq, Prod.mk.injEq] at H
          obtain ⟨rfl, rfl⟩ := H
          go_enter Try.func92, Try.ntmps92
          go_wp2_with (first | (go_at_call 52; (with_reducible refine (impl_RootQuad.calls k _ _ l0 rr true _ HR0.out HC0.out A2.out).mono ?_); rintro e w1 ⟨v1, rfl, ho, hb⟩; have HB1 := Aside0.mk hb; have HT := Aside0.mk ho; clear ho hb; obtain ⟨Ao, co, eo⟩ := Kd.R_slice HT.out; subst eo; obtain ⟨ad, e0, hx0⟩ := Kd.at_int (Kd.R_reads' HT.out).2.2 0 p0 c1; cases e0; rw [show ((0 : Int)).toNat = 0 from rfl, Addr.add_zero'] at hx0; have p0t := eq_true p0; have q0t := eq_true c1; have qi0 : (0 < rr.length) = True := eq_true (by omega)) | (go_at_call 95; (with_reducible refine (impl_within.calls a1 1 500 false _ A3.out).mono ?_); rintro e w2 ⟨rfl, ⟨nd, rfl⟩⟩))
          go_ret2
          exact ⟨_, rfl, Kd.R_nil _ _ _ _ _, by repeat (first | exact HB1.out | apply pw_below_drewN)⟩
        | true =>
          rw [if_pos rfl] at H
          replace H := Option.bind_eq_some_iff.mp H
          obtain ⟨ss, A40, H⟩ := H
          simp only [Option.some.injEq, Prod.mk.injEq] at H
          obtain ⟨rfl, rfl⟩ := H
          have A4 := Aside0.mk A40
          clear A40
          go_enter Try.func92, Try.ntmps92
          go_wp2_with (first
            | (go_at_call 52; (with_reducible refine (impl_RootQuad.calls k _ _ l0 rr true _ HR0.out HC0.out A2.out).mono ?_); rintro e w1 ⟨v1, rfl, ho, hb⟩; have n0_ := Aside0.mk hb; have HT := Aside0.mk ho; clear HB ho hb; have HB := n0_; clear n0_; obtain ⟨Ao, co, eo⟩ := Kd.R_slice HT.out; subst eo; obtain ⟨ad, e0, hx0⟩ := Kd.at_int (Kd.R_reads' HT.out).2.2 0 p0 c1; cases e0; rw [show ((0 : Int)).toNat = 0 from rfl, Addr.add_zero'] at hx0; have p0t := eq_true p0; have q0t := eq_true c1; have qi0 : (0 < rr.length) = True := eq_true (by omega))
            | (go_at_call 95; (with_reducible refine (impl_within.calls a1 1 500 true _ A3.out).mono ?_); rintro e w2 ⟨rfl, hd⟩; have HD := Aside0.mk (Drawn0.below hd); have HW1 := Aside0.mk (below_size HB.out); have HC1 := Aside0.mk (Kd.C_kept_own (S := fun k_ => w1.heap.size ≤ k_) (Kd.R_bound (Kd.R_tight rfl HT.out)) (fun k_ hk hs => absurd hs (by have := hk.2.2.1; omega))); have HTC := Aside0.mk (Kd.R_reads' HT.out).2.1; have HK := Aside0.mk (Kept.of_below HD.out (fun k_ => w1.heap.size ≤ k_)); have n0_ := Aside0.mk (below_step HB.out HD.out); clear HB hx0 HT hd; have HB := n0_; clear n0_)
            | ((with_reducible refine gate_dst (N := 30) rfl ?_); refine Kd.R_lit (Kd.int .i64) _ 3 ?hg (N := 30) ?hd (xs := ([] : List Int)) (inner := []) (ok := fun _ => True) (okp := fun _ => True) ?hr ?hp (fun _ hk => hk) trivial (Below.refl _ _) (Nat.le_refl _) (by simp) ?_; (case hd => rfl); (case hg => rfl); (case hr => first | (go_simp; done) | (go_simp; rfl)); (case hp => exact (Reps.none _ _)); intro v3 w3 ho hb hg_ hnew_; clear hg_ hnew_; have HO := Aside0.mk (Kd.R_mono (Kd.R_lower (Kd.R_newM (M := fun k_ => w1.heap.size ≤ k_) ho (below_size HD.out) (fun _ hk => hk)) (below_size HB.out)) (fun k_ hk => hk.1)); have n0_ := Aside0.mk (below_step HB.out hb); have n1_ := Aside0.mk (Kept.below HK.out hb); clear HB HK ho hb; have HB := n0_; have HK := n1_; clear n0_ n1_)
            | ((with_reducible refine gate_dst (N := 8) rfl ?_); refine box_event ?hg (N := 8) ?hd (cs := #[.slice none 0 0]) (t := 22) ?hr ?_; (case hd => rfl); (case hg => rfl); (case hr => first | (go_simp; done) | (go_simp; rfl)); intro gb hg w4 hbox hb; have n0_ := Aside0.mk (below_step HB.out hb); have BK := Aside0.mk hbox; have GE := Aside0.mk (show w1.heap.size ≤ gb by rw [hg]; exact HK.out.1); have n1_ := Aside0.mk (Kept.below HK.out hb); have n2_ := Aside0.mk (Kd.R_below HO.out hb); have NB := Aside0.mk (show v3.ownBlock ≠ some gb by intro he; have := Kd.R_lt HO.out gb he; omega); clear HB HK HO hb hbox hg; have HB := n0_; have HK := n1_; have HO := n2_; clear n0_ n1_ n2_; have hcz3 : w4.cell? ⟨gb, 0, none⟩ = some (.slice none 0 0) := (blk_cell BK.out 0).trans rfl; have hfz3 := blk_frozen BK.out 0; obtain ⟨Av, cv, ev⟩ := Kd.R_slice HO.out; subst ev))
          go_loopg [34] k (fun kq v34 wr => ∃ (x0_1 : List Int) (i : Int) (u : Value), v34 = .int .i64 i ∧ 0 ≤ i ∧ Aside0 (impl_packed.l0 kq x0_1 rr a1 i = some ss) ∧ Aside0 (kq ≤ k) ∧ Aside0 (wr.heap[gb]? = some (.cells #[u] 22 (0, 0))) ∧ Aside0 (Kd.R (Kd.int .i64) 3 wr w.heap.size (fun k_ => w1.heap.size ≤ k_) u x0_1) ∧ Aside0 (Kept w1 wr (fun k_ => w1.heap.size ≤ k_)) ∧ Aside0 (Below w.heap.size w wr))
          case atStart => exact ⟨[], 0, _, (by first | rfl | (simp; done) | (simp [*]; done)), Int.le_refl _, A4, ⟨Nat.le_refl _⟩, ⟨by refine blk_put (cs := #[.slice none 0 0]) ?_ 0 _ rfl; exact BK.out⟩, ⟨Kd.R_mono (Kd.R_far (p := ⟨gb, 0, none⟩) (Kd.R_types HO.out BK.out (by decide)) (fun _ hk => hk.2) _) (fun _ hk => hk.1)⟩, ⟨Kept.setCell HK.out (.inl GE.out) _⟩, ⟨below_set HB.out (Nat.le_trans HW1.out GE.out)⟩⟩
          case round =>
            clear A4 HO HK HB BK NB
            try clear hcz3
            try clear hfz3
            obtain ⟨x0_1, i, u, rfl, hi0, HA, HK1, BK, HO, HK, HB⟩ := hrel
            cases gk with
            | zero => exact absurd HA.out (by simp [impl_packed.l0])
            | succ k1 =>
              have H := HA.out
              clear HA
              simp only [impl_packed.l0] at H
              have GEw := Aside0.mk (Nat.le_trans HW1.out GE.out)
              by_cases c5 : i < (rr.length : Int)
              · rw [if_pos c5] at H
                have c5b0 : decide (i < (rr.length : Int)) = true := decide_eq_true c5
                obtain ⟨ad5, e5, hx5⟩ := Kd.at_int (Kd.C_kept_now HC1.out HK.out) i hi0 c5
                cases e5
                by_cases c10 : (rd rr i) ≤ a1
                · rw [if_pos c10] at H
                  have c10b0 : decide ((rd rr i) ≤ a1) = true := decide_eq_true c10
                  clear c10
                  by_cases c11 : x0_1.length < 17592186044416
                  · rw [if_pos c11] at H
                    have LM := Aside0.mk c11
                    clear c11
                    have H' := Aside0.mk H
                    clear H
                    go_wp2_with (go_at_fn 110; refine (packedVisit.calls (fun k_ => w1.heap.size ≤ k_) gb u x0_1 (rd rr i) w _ HB.out GE.out GEw.out BK.out HO.out LM.out).mono ?_; rintro e w15 ⟨rfl, u2, bk2, ho2, hb2, hk2⟩; have n2_ := Aside0.mk (Kept.then_ HK.out hk2 (fun k_ hk => .inl hk)); have n3_ := Aside0.mk (Kd.R_mono ho2 (fun k_ hk => show w1.heap.size ≤ k_ from hk.elim id (fun h => Nat.le_trans HK.out.1 h))); clear HO HK HB BK hx5; have HO := n3_; have HK := n2_; have HB := Aside0.mk hb2; have BK := Aside0.mk bk2; clear n2_ n3_ ho2 hb2 bk2 hk2)
                    go_roundg k1
                    case measure => have := HK1.out; omega
                    case rel => exact ⟨x0_1 ++ [rd rr i], wrap64 (i + 1), u2, (by first | rfl | (simp; done) | (simp [*]; done)), by have := HTC.out; have := (HC1.out w1 (Kept.refl _ _)).2.1; unfold wrap64; omega, H', ⟨by have := HK1.out; omega⟩, BK, HO, HK, HB⟩
                  · rw [if_neg c11] at H
                    exact absurd H (by simp)
                · rw [if_neg c10] at H
                  have c10b0 : decide ((rd rr i) ≤ a1) = false := decide_eq_false c10
                  clear c10
                  have H' := Aside0.mk H
                  clear H
                  go_wp2
                  go_roundg k1
                  case measure => have := HK1.out; omega
                  case rel => exact ⟨x0_1, wrap64 (i + 1), u, (by first | rfl | (simp; done) | (simp [*]; done)), by have := HTC.out; have := (HC1.out w1 (Kept.refl _ _)).2.1; unfold wrap64; omega, H', ⟨by have := HK1.out; omega⟩, BK, HO, HK, HB⟩
              · rw [if_neg c5] at H
                have c5b0 : decide (i < (rr.length : Int)) = false := decide_eq_false c5
                clear c5
                replace H := Option.bind_eq_some_iff.mp H
                obtain ⟨oo, A50, A60⟩ := H
                have A5 := Aside0.mk A50
                have A6 := Aside0.mk A60
                clear A50 A60
                have HC2 := Aside0.mk (Kd.C_kept_step HC1.out HK.out)
                go_wp2_with (first
                  | (go_at_call 111; refine (impl_circles.calls k1 (fun k_ => w1.heap.size ≤ k_) gb u x0_1 _ _ rr (-1) a1 oo w _ HB.out GE.out GEw.out BK.out HO.out HC2.out HTC.out A5.out).mono ?_; rintro e w16 ⟨rfl, u3, bk3, ho3, hb3, hk3⟩; clear HO HK HB BK; have HO := Aside0.mk ho3; have HB := Aside0.mk hb3; have BK := Aside0.mk bk3; clear ho3 hb3 bk3 hk3; have hcz6 : w16.cell? ⟨gb, 0, none⟩ = some u3 := (blk_cell BK.out 0).trans rfl; have hfz6 := blk_frozen BK.out 0; obtain ⟨A3_, c3_, e3_⟩ := Kd.R_slice HO.out; subst e3_)
                  | (go_at_call 107; refine (slices_Sort_int_int.calls (fun k_ => some k_ = (Value.slice A3_ oo.length c3_).ownBlock) _ oo ss w _ HB.out (Kd.R_tight rfl HO.out) A6.out).mono ?_; rintro e w17 ⟨rfl, ho4, hb4, hk4⟩; have n0_ := Aside0.mk (blk_kept BK.out hk4 (Kd.R_ne HO.out BK.out (by decide))); clear HO HB BK hcz6 hfz6; have HO := Aside0.mk ho4; have HB := Aside0.mk hb4; have BK := n0_; clear n0_ ho4 hb4 hk4; have hcz7 : w17.cell? ⟨gb, 0, none⟩ = some (.slice A3_ oo.length c3_) := (blk_cell BK.out 0).trans rfl; have hfz7 := blk_frozen BK.out 0))
                go_ret2
                exact ⟨_, rfl, Kd.R_mono HO.out (fun _ _ => trivial), HB.out⟩
    · rw [if_neg c1] at H
      exact absurd H (by simp)

/-! ### impl_CountUpTo: function 54 -/
def impl_CountUpTo.f (k : Nat) (l0 : List Int) (a1 : Int) : Option (Int × Bool) := (impl_packed.f k l0 a1).bind fun bt723 => (some ((bt723.1.length : Int), bt723.2))
theorem impl_CountUpTo.mono : ∀ a0 a1 k, LeO (impl_CountUpTo.f k a0 a1) (impl_CountUpTo.f (k + 1) a0 a1) := by
  intro a0 a1 k
  unfold impl_CountUpTo.f
  repeat' first
      | (with_reducible exact impl_packed.mono _ _ _)
      | (with_reducible exact LeO.refl _)
      | (with_reducible exact LeO.none _)
      | (with_reducible refine LeO.ite ?_ ?_)
      | (with_reducible refine LeO.bind ?_ (fun _ => ?_))
      | exact impl_packed.mono _ _ _
      | exact LeO.none _
      | refine LeO.ite ?_ ?_
      | refine LeO.bind ?_ (fun _ => ?_)
set_option maxHeartbeats 8000000 in
set_option maxRecDepth 100000 in
theorem impl_CountUpTo.calls (k : Nat) (A0 : Option Addr) (c0 : Nat) (l0 : List Int) (a1 : Int) (r1 : Int) (r2 : Bool) (w : World) (hr0 : Kd.C (Kd.int .i64) w A0 l0.length l0) (hc0 : l0.length ≤ c0) (h : impl_CountUpTo.f k l0 a1 = some (r1, r2)) :
    Calls Try.prog 54 #[.slice A0 l0.length c0, .int .i64 a1] w fun e w' => e = .returned (.tuple #[.int .i64 r1, .bool r2]) ∧ Below w.heap.size w w' := by
  have HR0 := Aside0.mk hr0
  have HC0 := Aside0.mk hc0
  clear hr0 hc0
  have HB := Aside0.mk (Below.refl w.heap.size w)
  have H : ((impl_packed.f k l0 a1).bind fun bt723 => (some ((bt723.1.length : Int), bt723.2))) = some (r1, r2) := h
  clear h
  replace H := Option.bind_eq_some_iff.mp H
  obtain ⟨⟨t723, t724⟩, A30, H⟩ := H
  replace H : (some ((t723.length : Int), t724)) = some (r1, r2) := H
  have A3 := Aside0.mk A30
  clear A30
  simp only [Option.some.injEq, Prod.mk.injEq] at H
  obtain ⟨rfl, rfl⟩ := H
  go_enter Try.func54, Try.ntmps54
  go_wp2_with (first | ((with_reducible refine gate_callee (f := 92) rfl ?_); refine goesL_ (some 11) rfl rfl Try.func92 (by kernel_rfl) rfl #[.slice A0 l0.length c0, .int .i64 a1] rfl (by (try simp only [List.map_toArray, List.map_cons, List.map_nil]); first | done | rfl | (simp only [List.length_drop, List.length_take]; rfl)) ?_; (with_reducible refine (impl_packed.calls k _ _ l0 a1 t723 t724 _ ?side1 ?side2 A3.out).mono ?_); (case side1 => repeat (first | exact HR0.out | (with_reducible refine Kd.C_alloc ?_ _) | (with_reducible refine Kd.C_drewN ?_ _) | (with_reducible refine Kd.C_drew ?_))); (case side2 => exact HC0.out); rintro e w4 ⟨v725, rfl, ho0, hb⟩; refine ⟨_, rfl, ?_⟩; have n0_ := Aside0.mk (Kd.R_lower ho0 (below_size (by repeat (first | (with_reducible first | exact HB.out | apply below_alloc | apply pw_below_drewN | apply below_drew1) | exact HB.out)))); have n1_ := Aside0.mk (below_step (by repeat (first | (with_reducible first | exact HB.out | apply below_alloc | apply pw_below_drewN | apply below_drew1) | exact HB.out)) hb); clear HB; have HO726 := n0_; have HB := n1_; clear n0_ n1_; (try clear hb); (try clear hb2); (try clear hk); (try clear hi); (try clear ho0); obtain ⟨Ao5, co5, eo5⟩ := Kd.R_slice HO726.out; subst eo5))
  go_ret2
  exact ⟨by first | rfl | (simp [errW_none, errW_some] <;> rfl) | (simp [*, errW_none, errW_some] <;> rfl), by repeat (first | (with_reducible first | exact HB.out | apply below_alloc | apply pw_below_drewN | apply below_drew1) | exact HB.out)⟩

end Go.Proofs.Ytmjodkckffmnaaa.P
