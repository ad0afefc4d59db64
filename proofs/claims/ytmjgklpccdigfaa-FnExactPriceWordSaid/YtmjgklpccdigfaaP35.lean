/- Written by a program of this session: for Go functions that a statement reaches, Lean functions with the same answers and the proofs that the calls come to them; conditions: none but the arguments' kinds. -/
import Derived.Test.YtmjgklpccdigfaaP0
import Derived.Test.YtmjgklpccdigfaaP7
import Derived.Test.YtmjgklpccdigfaaP12
import Derived.Test.YtmjgklpccdigfaaP23
import Derived.Test.YtmjgklpccdigfaaP34
namespace Go.Proofs.Ytmjgklpccdigfaa.P
open Go.RowKit Go.Proofs.YtmjgklpccdigfaaW.PrintWords Go.Proofs.YtmjgklpccdigfaaW.PrintLast Go.Proofs.YtmjgklpccdigfaaW.PrintMore
attribute [local go_sem] max2_int min2_int max_two min_two max_three min_three max_four min_four   -- for this text's walks alone
set_option linter.unusedVariables false
set_option linter.unusedSimpArgs false

/-! ### impl_tree_wordOf: function 68 -/
def wordL (pf : Int → Int → Option (Int × Int × Int)) : Nat → List Int → Int → Int → Int → Option (List Int)
  | 0, _, _, _, _ => none
  | k + 1, out, m, n, c => if 0 ≤ c then (if out.length < 1000000 then ((pf m n).bind fun q => wordL pf k (out ++ [c]) q.1 q.2.1 q.2.2) else none) else some out
def wordF (pf : Int → Int → Option (Int × Int × Int)) (k : Nat) (l0 : List Int) : Option (List Int × Bool) :=
  (impl_IsRight.f k l0).bind fun t => if t = true then ((impl_pairOf.f k l0).bind fun p => (pf p.1 p.2).bind fun q => (wordL pf k [] q.1 q.2.1 q.2.2).bind fun o => (slices_Reverse_int_int.f k o).bind fun r => some (r, true)) else some ([], false)
theorem wordL.mono (pf : Int → Int → Option (Int × Int × Int)) : ∀ k y0 y1 y2 y3, LeO (wordL pf k y0 y1 y2 y3) (wordL pf (k + 1) y0 y1 y2 y3)
  | 0, _, _, _, _ => fun r h => by simp [wordL] at h
  | k + 1, y0, y1, y2, y3 => by
    have ih := wordL.mono pf k
    unfold wordL
    repeat' first
      | (with_reducible exact ih _ _ _ _)
      | (with_reducible exact LeO.refl _)
      | (with_reducible refine LeO.ite ?_ ?_)
      | (with_reducible refine LeO.bind ?_ (fun _ => ?_))
theorem wordF.mono (pf : Int → Int → Option (Int × Int × Int)) : ∀ a0 k, LeO (wordF pf k a0) (wordF pf (k + 1) a0) := by
  intro a0 k
  unfold wordF
  repeat' first
      | (with_reducible exact impl_IsRight.mono _ _)
      | (with_reducible exact impl_pairOf.mono _ _)
      | (with_reducible exact slices_Reverse_int_int.mono _ _)
      | (with_reducible exact wordL.mono _ _ _ _ _ _)
      | (with_reducible exact LeO.refl _)
      | (with_reducible refine LeO.ite ?_ ?_)
      | (with_reducible refine LeO.bind ?_ (fun _ => ?_))
set_option maxHeartbeats 8000000 in
set_option maxRecDepth 100000 in
theorem impl_tree_wordOf.calls (g1 g2 : Nat) (eg : ∀ args w, (callFunc g2 args).run Try.prog w = .ok (.enter g2 args) w) (pf : Int → Int → Option (Int × Int × Int))
    (hpf : ∀ (m n a b c : Int) (W : World), pf m n = some (a, b, c) → Calls Try.prog g2 #[.agg #[.int .i64 m, .int .i64 n]] W fun e w' => e = .returned (.tuple #[.agg #[.int .i64 a, .int .i64 b], .int .i64 c]) ∧ Below W.heap.size W w')
    (k : Nat) (A0 : Option Addr) (c0 : Nat) (l0 : List Int) (r1 : List Int) (r2 : Bool) (w : World) (hr0 : Kd.C (Kd.int .i64) w A0 l0.length l0) (hc0 : l0.length ≤ c0) (h : wordF pf k l0 = some (r1, r2)) :
    Calls Try.prog 68 #[.agg #[.func (.func g1) #[] #[], .func (.func g2) #[] #[]], .slice A0 l0.length c0] w fun e w' => ∃ v0_ : Value, e = .returned (.tuple #[v0_, .bool r2]) ∧ Kd.R (Kd.int .i64) 3 w' w.heap.size (fun _ => True) v0_ r1 ∧ Below w.heap.size w w' := by
  have hu := Try.underlying57
  have hu2 := Try.underlying49
  have HR0 := Aside0.mk hr0
  have HC0 := Aside0.mk hc0
  have HPF := Aside0.mk hpf
  clear hr0 hc0 hpf
  obtain ⟨t, h1, h⟩ := Option.bind_eq_some_iff.mp h
  replace h1 := Aside0.mk h1
  have HW0 := Aside0.mk (below_alloc (Below.refl w.heap.size w) (.cells #[.func (.func g1) #[] #[], .func (.func g2) #[] #[]] 57))
  cases t with
  | false =>
    rw [if_neg (by decide)] at h
    simp only [Option.some.injEq, Prod.mk.injEq] at h
    obtain ⟨rfl, rfl⟩ := h
    go_enter Try.func68, Try.ntmps68
    go_wp2_with fail
    refine (impl_IsRight.calls k _ _ l0 false _ (Kd.C_below HR0.out HW0.out) HC0.out h1.out).mono ?_
    rintro e w1 ⟨rfl, hb1⟩
    have HB1 := Aside0.mk (below_step HW0.out hb1)
    clear hb1
    go_wp2
    go_ret2
    exact ⟨_, rfl, Kd.R_nil _ _ _ _ _, HB1.out⟩
  | true =>
    rw [if_pos rfl] at h
    obtain ⟨⟨pm, pn⟩, h3, h⟩ := Option.bind_eq_some_iff.mp h
    obtain ⟨⟨qm, qn, qk⟩, h4, h⟩ := Option.bind_eq_some_iff.mp h
    obtain ⟨o, h5, h⟩ := Option.bind_eq_some_iff.mp h
    obtain ⟨rv, h6, h⟩ := Option.bind_eq_some_iff.mp h
    simp only [Option.some.injEq, Prod.mk.injEq] at h
    obtain ⟨rfl, rfl⟩ := h
    replace h3 := Aside0.mk h3
    replace h4 := Aside0.mk h4
    replace h5 := Aside0.mk (show wordL pf k [] qm qn qk = some o from h5)
    replace h6 := Aside0.mk h6
    go_enter Try.func68, Try.ntmps68
    go_wp2_with fail
    refine (impl_IsRight.calls k _ _ l0 true _ (Kd.C_below HR0.out HW0.out) HC0.out h1.out).mono ?_
    rintro e wa ⟨rfl, hb1⟩
    have HBa := Aside0.mk (below_step HW0.out hb1)
    have BTa := Aside0.mk (blk_below (heap_alloc_new w (.cells #[.func (.func g1) #[] #[], .func (.func g2) #[] #[]] 57)) hb1)
    clear hb1
    go_wp2_with ((with_reducible refine gate_dst (N := 12) rfl ?_); refine Kd.R_lit (Kd.int .i64) _ 3 ?hg (N := 12) ?hd (xs := ([] : List Int)) (inner := []) (ok := fun _ => True) (okp := fun _ => True) ?hr ?hp (fun _ hk => hk) trivial (Below.refl _ _) (Nat.le_refl _) (by simp) ?_; (case hd => rfl); (case hg => rfl); (case hr => first | (go_simp; done) | (go_simp; rfl)); (case hp => exact (Reps.none _ _)); intro v12 w1 ho3 hb hg_ hnew_; have HO1 := Aside0.mk (Kd.R_lower ho3 HBa.out.size); have HB1 := Aside0.mk (below_step HBa.out hb); have BT1 := Aside0.mk (blk_below BTa.out hb); clear ho3 hb hg_ hnew_)
    have hc1 : w1.cell? ⟨w.heap.size, 1, none⟩ = some (.func (.func g2) #[] #[]) := (blk_cell BT1.out 1).trans rfl
    have HN1 := Aside0.mk (blk_lt BT1.out)
    have hpo : ∀ W, Below w1.heap.size w1 W → W.cell? ⟨w.heap.size, 1, none⟩ = some (.func (.func g2) #[] #[]) → Calls Try.prog 53 #[.slice A0 l0.length c0] W fun e w' => e = .returned (.agg #[.int .i64 pm, .int .i64 pn]) ∧ Below w1.heap.size w1 w' ∧ w'.cell? ⟨w.heap.size, 1, none⟩ = some (.func (.func g2) #[] #[]) ∧ Below W.heap.size W w' := fun W hW hc => (impl_pairOf.calls k _ _ l0 pm pn _ (Kd.C_below HR0.out (below_then HB1.out HB1.out.size hW)) HC0.out h3.out).mono fun e w' ⟨he, hb⟩ => ⟨he, below_step hW hb, (hb.cell (World.block_lt_of_cell? _ _ hc)).trans hc, hb⟩
    have hch : ∀ W, Below w1.heap.size w1 W → W.cell? ⟨w.heap.size, 1, none⟩ = some (.func (.func g2) #[] #[]) → Calls Try.prog g2 #[.agg #[.int .i64 pm, .int .i64 pn]] W fun e w' => e = .returned (.tuple #[.agg #[.int .i64 qm, .int .i64 qn], .int .i64 qk]) ∧ Below w1.heap.size w1 w' ∧ w'.cell? ⟨w.heap.size, 1, none⟩ = some (.func (.func g2) #[] #[]) ∧ Below W.heap.size W w' := fun W hW hc => (HPF.out pm pn qm qn qk _ h4.out).mono fun e w' ⟨he, hb⟩ => ⟨he, below_step hW hb, (hb.cell (World.block_lt_of_cell? _ _ hc)).trans hc, hb⟩
    replace hpo := Aside0.mk hpo
    replace hch := Aside0.mk hch
    refine start_ (n := 11) (S := fun w' => w'.cell? ⟨w.heap.size, 1, none⟩ = some (.func (.func g2) #[] #[])) (ds := []) #[false, false, false, false, false, false, false, false, false, false, false] (by kernel_rfl) rfl rfl hc1 (fun hHeld => ?_)
    generalize hw2_ : World.drew w1 = w2 at hHeld ⊢
    have HB2 := Aside0.mk (show Below w1.heap.size w1 w2 by rw [← hw2_]; exact below_drew (Below.refl _ _))
    clear hw2_
    refine pure_ (i := 0) (N := some 14) (v := ?_) (a' := ?_) #[true, false, false, false, false, false, false, false, false, false, false] rfl rfl (by kernel_rfl) (fun _ _ _ h => h) (Or.inl ⟨by rfl, ?_⟩) ?_ ?_
    rotate_left
    · intro w'
      go_simp
      with_reducible rfl
    rotate_left
    · simp only [Act.put, List.setIfInBounds_toArray, List.set_cons_zero, List.set_cons_succ, i64_w, i32_w]
      rfl
    refine take_ (i := 1) (N := some 15) (v := ?_) (a' := ?_) #[true, true, false, false, false, false, false, false, false, false, false] rfl rfl (by kernel_rfl) (fun _ _ _ h => h) (Or.inl ⟨by rfl, ?_⟩) hHeld ?_ ?_
    rotate_left
    · rintro w' s0
      go_simp
      with_reducible rfl
    rotate_left
    · simp only [Act.put, List.setIfInBounds_toArray, List.set_cons_zero, List.set_cons_succ, i64_w, i32_w]
      rfl
    refine pure_ (i := 2) (N := some 16) (v := ?_) (a' := ?_) #[true, true, true, false, false, false, false, false, false, false, false] rfl rfl (by kernel_rfl) (fun _ _ _ h => h) (Or.inl ⟨by rfl, ?_⟩) ?_ ?_
    rotate_left
    · intro w'
      go_simp
      with_reducible rfl
    rotate_left
    · simp only [Act.put, List.setIfInBounds_toArray, List.set_cons_zero, List.set_cons_succ, i64_w, i32_w]
      rfl
    refine join_ (σ := Nat) 2 #[true, true, true, true, true, true, true, true, true, false, false] (fun s_ => [(17, .agg #[.int .i64 pm, .int .i64 pn]), (18, .tuple #[.agg #[.int .i64 qm, .int .i64 qn], .int .i64 qk]), (13, .tuple #[.agg #[.int .i64 qm, .int .i64 qn], .int .i64 qk]), (19, .agg #[.int .i64 qm, .int .i64 qn]), (20, .int .i64 qk), (7, .pointer (some ⟨s_, 0, none⟩))]) (fun s_ w' => w'.cell? ⟨w.heap.size, 1, none⟩ = some (.func (.func g2) #[] #[]) ∧ Below w1.heap.size w1 w' ∧ w1.heap.size ≤ s_ ∧ w'.heap[s_]? = some (.cells #[.int .i64 0, .int .i64 0] 49 (0, 0))) ?_ ?_
    rotate_left
    · intro hCont
      refine two_ (i := 3) (j := 8) (Ni := some 17) (Nj := some 7) #[true, true, true, true, false, false, false, false, false, false, false] #[true, true, true, false, false, false, false, false, true, false, false] rfl rfl rfl rfl (by kernel_rfl) (by decide) (by decide) (fun K hK => ?_) (fun K hK => ?_)
      · skip
        refine goes_ Try.func53 (by kernel_rfl) rfl #[.slice A0 l0.length c0] (by rfl) rfl rfl (by (try simp only [List.map_toArray, List.map_cons, List.map_nil]); first | done | rfl) ?_
        refine (hpo.out _ HB2.out hHeld).mono ?_
        rintro e w3 ⟨rfl, hb_, hc_, hk_⟩
        refine ⟨_, rfl, ?_⟩
        have HBw3 := Aside0.mk hb_
        have HKw3 := Aside0.mk hk_
        clear hb_ hk_
        refine hK.out _ _ hc_ (fun hHeld => ?_)
        clear hK K hc_
        refine norm_ (a' := ?_) ?_ ?_
        rotate_left
        · show Act.put _ (some 17) _ = _
          simp only [Act.put, List.setIfInBounds_toArray, List.set_cons_zero, List.set_cons_succ, i64_w, i32_w]
          rfl
        refine two_ (i := 4) (j := 8) (Ni := some 18) (Nj := some 7) #[true, true, true, true, true, false, false, false, false, false, false] #[true, true, true, true, false, false, false, false, true, false, false] rfl rfl rfl rfl (by kernel_rfl) (by decide) (by decide) (fun K hK => ?_) (fun K hK => ?_)
        · skip
          refine goesF_ eg #[.agg #[.int .i64 pm, .int .i64 pn]] (by rfl) rfl (.tmp 15) #[] rfl rfl (by (try simp only [List.map_toArray, List.map_cons, List.map_nil]); first | done | rfl) ?_
          refine (hch.out _ HBw3.out hHeld).mono ?_
          rintro e w4 ⟨rfl, hb_, hc_, hk_⟩
          refine ⟨_, rfl, ?_⟩
          have HBw4 := Aside0.mk hb_
          have HKw4 := Aside0.mk hk_
          clear hb_ hk_
          refine hK.out _ _ hc_ (fun hHeld => ?_)
          clear hK K hc_
          refine norm_ (a' := ?_) ?_ ?_
          rotate_left
          · show Act.put _ (some 18) _ = _
            simp only [Act.put, List.setIfInBounds_toArray, List.set_cons_zero, List.set_cons_succ, i64_w, i32_w]
            rfl
          refine pure_ (i := 5) (N := some 13) (v := ?_) (a' := ?_) #[true, true, true, true, true, true, false, false, false, false, false] rfl rfl (by kernel_rfl) (fun _ _ _ h => h) (Or.inl ⟨by rfl, ?_⟩) ?_ ?_
          rotate_left
          · intro w'
            go_simp
            with_reducible rfl
          rotate_left
          · simp only [Act.put, List.setIfInBounds_toArray, List.set_cons_zero, List.set_cons_succ, i64_w, i32_w]
            rfl
          refine pure_ (i := 6) (N := some 19) (v := ?_) (a' := ?_) #[true, true, true, true, true, true, true, false, false, false, false] rfl rfl (by kernel_rfl) (fun _ _ _ h => h) (Or.inl ⟨by rfl, ?_⟩) ?_ ?_
          rotate_left
          · intro w'
            go_simp
            with_reducible rfl
          rotate_left
          · simp only [Act.put, List.setIfInBounds_toArray, List.set_cons_zero, List.set_cons_succ, i64_w, i32_w]
            rfl
          refine pure_ (i := 7) (N := some 20) (v := ?_) (a' := ?_) #[true, true, true, true, true, true, true, true, false, false, false] rfl rfl (by kernel_rfl) (fun _ _ _ h => h) (Or.inl ⟨by rfl, ?_⟩) ?_ ?_
          rotate_left
          · intro w'
            go_simp
            with_reducible rfl
          rotate_left
          · simp only [Act.put, List.setIfInBounds_toArray, List.set_cons_zero, List.set_cons_succ, i64_w, i32_w]
            rfl
          refine one_ (i := 8) (N := some 7) #[true, true, true, true, true, true, true, true, true, false, false] rfl rfl (by kernel_rfl) (by decide) (fun K hK => ?_)
          refine box_step ?hg (N := 7) ?hd (cs := #[.int .i64 0, .int .i64 0]) (t := 49) ?hr ?_; (case hd => rfl); (case hg => rfl); (case hr => first | (go_simp; done) | (go_simp; rfl))
          intro gb hgb w5 hbox_ hb_
          have BKw5 := Aside0.mk hbox_
          have HBw5 := Aside0.mk (below_step HBw4.out hb_)
          have GEw5 := Aside0.mk (show w1.heap.size ≤ gb by rw [hgb]; exact HBw4.out.size)
          refine hK.out _ _ (pw_cell_below hb_ hHeld) (fun hHeld => ?_)
          clear hK K hgb hbox_ hb_
          refine norm_ (a' := ?_) ?_ ?_
          rotate_left
          · show Act.put _ (some 7) _ = _
            simp only [Act.put, List.setIfInBounds_toArray, List.set_cons_zero, List.set_cons_succ, i64_w, i32_w]
            rfl
          exact norm_ (by simp only [putAll, Act.put, List.setIfInBounds_toArray, List.set_cons_zero, List.set_cons_succ]) (hCont gb _ ⟨hHeld, HBw5.out, GEw5.out, BKw5.out⟩)
        · skip
          refine box_step ?hg (N := 7) ?hd (cs := #[.int .i64 0, .int .i64 0]) (t := 49) ?hr ?_; (case hd => rfl); (case hg => rfl); (case hr => first | (go_simp; done) | (go_simp; rfl))
          intro gb hgb w4 hbox_ hb_
          have BKw4 := Aside0.mk hbox_
          have HBw4 := Aside0.mk (below_step HBw3.out hb_)
          have GEw4 := Aside0.mk (show w1.heap.size ≤ gb by rw [hgb]; exact HBw3.out.size)
          refine hK.out _ _ (pw_cell_below hb_ hHeld) (fun hHeld => ?_)
          clear hK K hgb hbox_ hb_
          refine norm_ (a' := ?_) ?_ ?_
          rotate_left
          · show Act.put _ (some 7) _ = _
            simp only [Act.put, List.setIfInBounds_toArray, List.set_cons_zero, List.set_cons_succ, i64_w, i32_w]
            rfl
          refine one_ (i := 4) (N := some 18) #[true, true, true, true, true, false, false, false, true, false, false] rfl rfl (by kernel_rfl) (by decide) (fun K hK => ?_)
          refine goesF_ eg #[.agg #[.int .i64 pm, .int .i64 pn]] (by rfl) rfl (.tmp 15) #[] rfl rfl (by (try simp only [List.map_toArray, List.map_cons, List.map_nil]); first | done | rfl) ?_
          refine (hch.out _ HBw4.out hHeld).mono ?_
          rintro e w5 ⟨rfl, hb_, hc_, hk_⟩
          refine ⟨_, rfl, ?_⟩
          have HBw5 := Aside0.mk hb_
          have HKw5 := Aside0.mk hk_
          clear hb_ hk_
          refine hK.out _ _ hc_ (fun hHeld => ?_)
          clear hK K hc_
          refine norm_ (a' := ?_) ?_ ?_
          rotate_left
          · show Act.put _ (some 18) _ = _
            simp only [Act.put, List.setIfInBounds_toArray, List.set_cons_zero, List.set_cons_succ, i64_w, i32_w]
            rfl
          refine pure_ (i := 5) (N := some 13) (v := ?_) (a' := ?_) #[true, true, true, true, true, true, false, false, true, false, false] rfl rfl (by kernel_rfl) (fun _ _ _ h => h) (Or.inl ⟨by rfl, ?_⟩) ?_ ?_
          rotate_left
          · intro w'
            go_simp
            with_reducible rfl
          rotate_left
          · simp only [Act.put, List.setIfInBounds_toArray, List.set_cons_zero, List.set_cons_succ, i64_w, i32_w]
            rfl
          refine pure_ (i := 6) (N := some 19) (v := ?_) (a' := ?_) #[true, true, true, true, true, true, true, false, true, false, false] rfl rfl (by kernel_rfl) (fun _ _ _ h => h) (Or.inl ⟨by rfl, ?_⟩) ?_ ?_
          rotate_left
          · intro w'
            go_simp
            with_reducible rfl
          rotate_left
          · simp only [Act.put, List.setIfInBounds_toArray, List.set_cons_zero, List.set_cons_succ, i64_w, i32_w]
            rfl
          refine pure_ (i := 7) (N := some 20) (v := ?_) (a' := ?_) #[true, true, true, true, true, true, true, true, true, false, false] rfl rfl (by kernel_rfl) (fun _ _ _ h => h) (Or.inl ⟨by rfl, ?_⟩) ?_ ?_
          rotate_left
          · intro w'
            go_simp
            with_reducible rfl
          rotate_left
          · simp only [Act.put, List.setIfInBounds_toArray, List.set_cons_zero, List.set_cons_succ, i64_w, i32_w]
            rfl
          exact norm_ (by simp only [putAll, Act.put, List.setIfInBounds_toArray, List.set_cons_zero, List.set_cons_succ]) (hCont gb _ ⟨hHeld, HBw5.out, GEw4.out, (blk_below BKw4.out HKw5.out)⟩)
      · skip
        refine box_step ?hg (N := 7) ?hd (cs := #[.int .i64 0, .int .i64 0]) (t := 49) ?hr ?_; (case hd => rfl); (case hg => rfl); (case hr => first | (go_simp; done) | (go_simp; rfl))
        intro gb hgb w3 hbox_ hb_
        have BKw3 := Aside0.mk hbox_
        have HBw3 := Aside0.mk (below_step HB2.out hb_)
        have GEw3 := Aside0.mk (show w1.heap.size ≤ gb by rw [hgb]; exact HB2.out.size)
        refine hK.out _ _ (pw_cell_below hb_ hHeld) (fun hHeld => ?_)
        clear hK K hgb hbox_ hb_
        refine norm_ (a' := ?_) ?_ ?_
        rotate_left
        · show Act.put _ (some 7) _ = _
          simp only [Act.put, List.setIfInBounds_toArray, List.set_cons_zero, List.set_cons_succ, i64_w, i32_w]
          rfl
        refine one_ (i := 3) (N := some 17) #[true, true, true, true, false, false, false, false, true, false, false] rfl rfl (by kernel_rfl) (by decide) (fun K hK => ?_)
        refine goes_ Try.func53 (by kernel_rfl) rfl #[.slice A0 l0.length c0] (by rfl) rfl rfl (by (try simp only [List.map_toArray, List.map_cons, List.map_nil]); first | done | rfl) ?_
        refine (hpo.out _ HBw3.out hHeld).mono ?_
        rintro e w4 ⟨rfl, hb_, hc_, hk_⟩
        refine ⟨_, rfl, ?_⟩
        have HBw4 := Aside0.mk hb_
        have HKw4 := Aside0.mk hk_
        clear hb_ hk_
        refine hK.out _ _ hc_ (fun hHeld => ?_)
        clear hK K hc_
        refine norm_ (a' := ?_) ?_ ?_
        rotate_left
        · show Act.put _ (some 17) _ = _
          simp only [Act.put, List.setIfInBounds_toArray, List.set_cons_zero, List.set_cons_succ, i64_w, i32_w]
          rfl
        refine one_ (i := 4) (N := some 18) #[true, true, true, true, true, false, false, false, true, false, false] rfl rfl (by kernel_rfl) (by decide) (fun K hK => ?_)
        refine goesF_ eg #[.agg #[.int .i64 pm, .int .i64 pn]] (by rfl) rfl (.tmp 15) #[] rfl rfl (by (try simp only [List.map_toArray, List.map_cons, List.map_nil]); first | done | rfl) ?_
        refine (hch.out _ HBw4.out hHeld).mono ?_
        rintro e w5 ⟨rfl, hb_, hc_, hk_⟩
        refine ⟨_, rfl, ?_⟩
        have HBw5 := Aside0.mk hb_
        have HKw5 := Aside0.mk hk_
        clear hb_ hk_
        refine hK.out _ _ hc_ (fun hHeld => ?_)
        clear hK K hc_
        refine norm_ (a' := ?_) ?_ ?_
        rotate_left
        · show Act.put _ (some 18) _ = _
          simp only [Act.put, List.setIfInBounds_toArray, List.set_cons_zero, List.set_cons_succ, i64_w, i32_w]
          rfl
        refine pure_ (i := 5) (N := some 13) (v := ?_) (a' := ?_) #[true, true, true, true, true, true, false, false, true, false, false] rfl rfl (by kernel_rfl) (fun _ _ _ h => h) (Or.inl ⟨by rfl, ?_⟩) ?_ ?_
        rotate_left
        · intro w'
          go_simp
          with_reducible rfl
        rotate_left
        · simp only [Act.put, List.setIfInBounds_toArray, List.set_cons_zero, List.set_cons_succ, i64_w, i32_w]
          rfl
        refine pure_ (i := 6) (N := some 19) (v := ?_) (a' := ?_) #[true, true, true, true, true, true, true, false, true, false, false] rfl rfl (by kernel_rfl) (fun _ _ _ h => h) (Or.inl ⟨by rfl, ?_⟩) ?_ ?_
        rotate_left
        · intro w'
          go_simp
          with_reducible rfl
        rotate_left
        · simp only [Act.put, List.setIfInBounds_toArray, List.set_cons_zero, List.set_cons_succ, i64_w, i32_w]
          rfl
        refine pure_ (i := 7) (N := some 20) (v := ?_) (a' := ?_) #[true, true, true, true, true, true, true, true, true, false, false] rfl rfl (by kernel_rfl) (fun _ _ _ h => h) (Or.inl ⟨by rfl, ?_⟩) ?_ ?_
        rotate_left
        · intro w'
          go_simp
          with_reducible rfl
        rotate_left
        · simp only [Act.put, List.setIfInBounds_toArray, List.set_cons_zero, List.set_cons_succ, i64_w, i32_w]
          rfl
        exact norm_ (by simp only [putAll, Act.put, List.setIfInBounds_toArray, List.set_cons_zero, List.set_cons_succ]) (hCont gb _ ⟨hHeld, HBw5.out, GEw3.out, (blk_below (blk_below BKw3.out HKw4.out) HKw5.out)⟩)
    rintro gb wz ⟨hHeld, hbz_, gez_, bkz_⟩
    have HBz := Aside0.mk hbz_
    have GEz := Aside0.mk gez_
    have BKz := Aside0.mk bkz_
    clear hbz_ gez_ bkz_
    refine norm_ (a' := ?_) ?_ ?_
    rotate_left
    · simp only [putAll, Act.put, List.setIfInBounds_toArray, List.set_cons_zero, List.set_cons_succ]
      rfl
    refine one_ (i := 9) (N := none) #[true, true, true, true, true, true, true, true, true, true, false] rfl rfl (by kernel_rfl) (by decide) (fun K hK => ?_)
    have hs0_ : wz.cell? ⟨gb, 0, none⟩ = some (.int .i64 0) := (blk_cell BKz.out 0).trans rfl
    have hf0_ := blk_frozen BKz.out 0
    have hs1_ : wz.cell? ⟨gb, 1, none⟩ = some (.int .i64 0) := (blk_cell BKz.out 1).trans rfl
    have hf1_ := blk_frozen BKz.out 1
    refine skip_ (w1 := ?_) (by rfl) rfl ?_ ?_
    rotate_left
    · go_simp
      rfl
    refine hK.out _ _ ((cell_far (p := ⟨gb, _, none⟩) (Nat.ne_of_lt (Nat.lt_of_lt_of_le HN1.out GEz.out)) _).trans ((cell_far (p := ⟨gb, _, none⟩) (Nat.ne_of_lt (Nat.lt_of_lt_of_le HN1.out GEz.out)) _).trans hHeld)) (fun hHeld => ?_)
    clear hK K hs0_ hf0_ hs1_ hf1_
    refine pure_ (i := 10) (N := some 8) (v := ?_) (a' := ?_) #[true, true, true, true, true, true, true, true, true, true, true] rfl rfl (by kernel_rfl) (fun _ _ _ h => h) (Or.inl ⟨by rfl, ?_⟩) ?_ ?_
    rotate_left
    · intro w'
      go_simp
      with_reducible rfl
    rotate_left
    · simp only [Act.put, List.setIfInBounds_toArray, List.set_cons_zero, List.set_cons_succ, i64_w, i32_w]
      rfl
    refine done_ (by kernel_rfl) ?_
    have BK9 := Aside0.mk (blk_put (cs := #[.int .i64 qm, .int .i64 0]) (blk_put (cs := #[.int .i64 0, .int .i64 0]) BKz.out 0 (.int .i64 qm) rfl) 1 (.int .i64 qn) rfl)
    have HB9 := Aside0.mk (show Below w1.heap.size w1 ((wz.setCell ⟨gb, 0, none⟩ (.int .i64 qm)).setCell ⟨gb, 1, none⟩ (.int .i64 qn)) from below_set (below_set HBz.out GEz.out) GEz.out)
    clear BKz HBz
    generalize (wz.setCell ⟨gb, 0, none⟩ (.int .i64 qm)).setCell ⟨gb, 1, none⟩ (.int .i64 qn) = w9 at BK9 HB9 hHeld ⊢
    have HO9 := Aside0.mk (Kd.R_below HO1.out HB9.out)
    have BT9 := Aside0.mk (blk_below BT1.out HB9.out)
    have HB10 := Aside0.mk (below_then HB1.out HB1.out.size HB9.out)
    have GE := Aside0.mk (show w.heap.size ≤ gb from Nat.le_trans HB1.out.size GEz.out)
    have NE := Aside0.mk (show w.heap.size ≠ gb by have := HN1.out; have := GEz.out; omega)
    clear hpo hch hHeld HO1 BT1 HB9 HB1 hc1 BTa HBa GEz HN1
    try go_wp2
    go_loopg [6, 8] k (fun kq v6 v8 wr => ∃ (out : List Int) (m n c : Int), v8 = .int .i64 c ∧ Aside0 (wordL pf kq out m n c = some o) ∧ Aside0 (Kd.R (Kd.int .i64) 3 wr w.heap.size (fun _ => True) v6 out) ∧ Aside0 (wr.heap[gb]? = some (.cells #[.int .i64 m, .int .i64 n] 49 (0, 0))) ∧ Aside0 (wr.heap[w.heap.size]? = some (.cells #[.func (.func g1) #[] #[], .func (.func g2) #[] #[]] 57 (0, 0))) ∧ Aside0 (Below w.heap.size w wr))
    case atStart => exact ⟨[], qm, qn, qk, rfl, h5, HO9, BK9, BT9, HB10⟩
    case round =>
      clear h5 HO9 BK9 BT9 HB10
      obtain ⟨out, m, n, c, rfl, HA, HO, BK, BT, HB⟩ := hrel
      cases gk with
      | zero => exact absurd HA.out (by simp [wordL])
      | succ k1 =>
        have H := HA.out
        clear HA
        simp only [wordL] at H
        obtain ⟨Ao, co, eo⟩ := Kd.R_slice HO.out
        subst eo
        by_cases c1 : 0 ≤ c
        · rw [if_pos c1] at H
          have c1b : decide (0 ≤ c) = true := decide_eq_true c1
          by_cases c2 : out.length < 1000000
          · rw [if_pos c2] at H
            have LM := Aside0.mk c2
            obtain ⟨⟨m1, n1, d1⟩, A1, H⟩ := Option.bind_eq_some_iff.mp H
            replace A1 := Aside0.mk A1
            replace H := Aside0.mk (show wordL pf k1 (out ++ [c]) m1 n1 d1 = some o from H)
            have hne1 := Aside0.mk (Kd.R_ne HO.out BK.out (by decide))
            have hne2 := Aside0.mk (Kd.R_ne HO.out BT.out (by decide))
            clear c1 c2
            go_wp2_with ((with_reducible refine gate_builtin (b := .append) (xs := #[.tmp 23, .tmp 25]) rfl ?_); at_builtin; refine Kd.R_append (Kd.int .i64) (w0 := w) w.heap.size rfl (.tmp 23) (.tmp 25) 22 3 (.int .i64 0) 8 rfl Try.underlying22 info3 rfl (by decide) (by omega) (.slice Ao out.length co) out c [.int .i64 c] (fun _ => True) (fun _ => False) rfl rfl ?aP (fun _ hk => hk.elim) ?aF ?aO ?aB ?aS ?aL ?_; (case aP => exact rfl); (case aB => exact HB.out); (case aF => exact (fun _ _ => trivial)); (case aO => exact HO.out); (case aS => exact HB.out.size); (case aL => have := LM.out; omega); intro v6 w5 ho hb hg hat; have HO5 := Aside0.mk ho; have HB5 := Aside0.mk hb; have BK5 := Aside0.mk (blk_grown BK.out hg hne1.out); have BT5 := Aside0.mk (blk_grown BT.out hg hne2.out); clear HO HB BK BT ho hb hg hat; have hx0 : w5.cell? ⟨gb, 0, none⟩ = some (.int .i64 m) := (blk_cell BK5.out 0).trans rfl; have hx1 : w5.cell? ⟨gb, 1, none⟩ = some (.int .i64 n) := (blk_cell BK5.out 1).trans rfl; have hxt : w5.cell? ⟨w.heap.size, 1, none⟩ = some (.func (.func g2) #[] #[]) := (blk_cell BT5.out 1).trans rfl)
            refine (HPF.out m n m1 n1 d1 _ A1.out).mono ?_
            rintro e w6 ⟨rfl, hb6⟩
            have BK6 := Aside0.mk (blk_below BK5.out hb6)
            have BT6 := Aside0.mk (blk_below BT5.out hb6)
            have HO6 := Aside0.mk (Kd.R_below HO5.out hb6)
            have HB6 := Aside0.mk (below_step HB5.out hb6)
            clear hx0 hx1 hxt HO5 HB5 BK5 BT5 hb6 hne1 hne2
            have hx0 : w6.cell? ⟨gb, 0, none⟩ = some (.int .i64 m) := (blk_cell BK6.out 0).trans rfl
            have hx1 : w6.cell? ⟨gb, 1, none⟩ = some (.int .i64 n) := (blk_cell BK6.out 1).trans rfl
            have hf0 := blk_frozen BK6.out 0
            have hf1 := blk_frozen BK6.out 1
            go_wp2
            have BK7 := Aside0.mk (blk_put (cs := #[.int .i64 m1, .int .i64 n]) (blk_put (cs := #[.int .i64 m, .int .i64 n]) BK6.out 0 (.int .i64 m1) rfl) 1 (.int .i64 n1) rfl)
            have BT7 := Aside0.mk (blk_far (blk_far BT6.out (p := ⟨gb, 0, none⟩) NE.out (.int .i64 m1)) (p := ⟨gb, 1, none⟩) NE.out (.int .i64 n1))
            have HO7 := Aside0.mk (Kd.R_set (Kd.R_set HO6.out BK6.out (by decide) 0 (.int .i64 m1)) (blk_put (cs := #[.int .i64 m, .int .i64 n]) BK6.out 0 (.int .i64 m1) rfl) (by decide) 1 (.int .i64 n1))
            have HB7 := Aside0.mk (below_set (below_set HB6.out GE.out (j := 0) (v := .int .i64 m1)) GE.out (j := 1) (v := .int .i64 n1))
            go_roundg k1
            case measure => omega
            case rel => exact ⟨out ++ [c], m1, n1, d1, rfl, H, HO7, BK7, BT7, HB7⟩
          · rw [if_neg c2] at H
            exact absurd H (by simp)
        · rw [if_neg c1] at H
          have c1b : decide (0 ≤ c) = false := decide_eq_false c1
          obtain rfl := Option.some.inj H
          clear c1
          go_wp2_with fail
          refine (slices_Reverse_int_int.calls k (fun _ => True) _ out rv w wr HB.out HO.out h6.out).mono ?_
          rintro e w7 ⟨rfl, hr7, hb7, -⟩
          have HR7 := Aside0.mk (Kd.R_mono hr7 (ok' := fun _ => True) (fun _ _ => trivial))
          have HB7 := Aside0.mk hb7
          have EL := Aside0.mk (show out.length = rv.length from (Kd.R_reads' hr7).1)
          clear hr7 hb7
          go_wp2
          go_ret2
          exact ⟨_, rfl, HR7.out, HB7.out⟩

end Go.Proofs.Ytmjgklpccdigfaa.P
