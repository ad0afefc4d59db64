/- Written by a program of this session: for Go functions that a statement reaches, Lean functions with the same answers and the proofs that the calls come to them; conditions: none but the arguments' kinds. -/
import Derived.Test.YtmjgklpccdigfaaP0
import Derived.Test.YtmjgklpccdigfaaP7
import Derived.Test.YtmjgklpccdigfaaP12
import Derived.Test.YtmjgklpccdigfaaP15
namespace Go.Proofs.Ytmjgklpccdigfaa.P
open Go.RowKit Go.Proofs.YtmjgklpccdigfaaW.PrintWords Go.Proofs.YtmjgklpccdigfaaW.PrintLast Go.Proofs.YtmjgklpccdigfaaW.PrintMore
attribute [local go_sem] max2_int min2_int max_two min_two max_three min_three max_four min_four   -- for this text's walks alone
set_option linter.unusedVariables false
set_option linter.unusedSimpArgs false

/-! ### impl_tree_parentOf: function 63 -/
/-- A call of a function value, its number a letter. -/
theorem goesF_ {P : Program} {ops : Array Oper} {Q : Exit → Act → World → Prop} {oi : Oper} {N : Option Tmp} {a : Act} {w : World} {K : Act → World → Prop} {g : Nat} {xs_ : Array Operand} {ts : Array TypeId} (eg : ∀ args w, (callFunc g args).run P w = .ok (.enter g args) w) (args : Array Value)
    (hw : Region.wanted oi (yielded ops a.tmps) = true) (hN : oi.dst = N) (co : Operand) (lb : Array Value) (hop : oi.op = .call { callee := .value co, args := xs_, argTypes := ts }) (hco : a.eval co = .func (.func g) #[] lb) (hargs : xs_.map a.eval = args)
    (h : Calls P g (args ++ lb) w fun e w' => ∃ v, e = .returned v ∧ K (a.put N v) w') : if Region.wanted oi (yielded ops a.tmps) = true then Oper.wp P oi a w K Q else K (a.put N undef) w := by
  refine call_ g (args ++ lb) hw hN ?_ h
  unfold execOp
  simp [hop, resolve, Deferred.ofValue, invoke, hco, hargs, eg]
def parentF (pf : Int → Int → Option (Int × Int × Int)) (k : Nat) (l0 : List Int) : Option (List Int × Int × Bool) :=
  (impl_IsRight.f k l0).bind fun t => if t = true then ((impl_pairOf.f k l0).bind fun p => (pf p.1 p.2).bind fun q => if q.2.2 < 0 then some ([], 0, false) else (impl_pair_right.f q.1 q.2.1).bind fun r => some (r.1, q.2.2, true)) else some ([], 0, false)
theorem parentF.mono (pf : Int → Int → Option (Int × Int × Int)) : ∀ a0 k, LeO (parentF pf k a0) (parentF pf (k + 1) a0) := by
  intro a0 k
  unfold parentF
  repeat' first
      | (with_reducible exact impl_IsRight.mono _ _)
      | (with_reducible exact impl_pairOf.mono _ _)
      | (with_reducible exact LeO.refl _)
      | (with_reducible refine LeO.ite ?_ ?_)
      | (with_reducible refine LeO.bind ?_ (fun _ => ?_))
set_option maxHeartbeats 8000000 in
set_option maxRecDepth 100000 in
theorem impl_tree_parentOf.calls (g1 g2 : Nat) (eg : ∀ args w, (callFunc g2 args).run Try.prog w = .ok (.enter g2 args) w) (pf : Int → Int → Option (Int × Int × Int))
    (hpf : ∀ (m n a b c : Int) (W : World), pf m n = some (a, b, c) → Calls Try.prog g2 #[.agg #[.int .i64 m, .int .i64 n]] W fun e w' => e = .returned (.tuple #[.agg #[.int .i64 a, .int .i64 b], .int .i64 c]) ∧ Below W.heap.size W w')
    (k : Nat) (A0 : Option Addr) (c0 : Nat) (l0 : List Int) (r1 : List Int) (r2 : Int) (r3 : Bool) (w : World) (hr0 : Kd.C (Kd.int .i64) w A0 l0.length l0) (hc0 : l0.length ≤ c0) (h : parentF pf k l0 = some (r1, r2, r3)) :
    Calls Try.prog 63 #[.agg #[.func (.func g1) #[] #[], .func (.func g2) #[] #[]], .slice A0 l0.length c0] w fun e w' => ∃ v0_ : Value, e = .returned (.tuple #[v0_, .int .i64 r2, .bool r3]) ∧ Kd.R (Kd.int .i64) 3 w' w.heap.size (fun _ => True) v0_ r1 ∧ Below w.heap.size w w' := by
  have hu := Try.underlying57
  have hu2 := Try.underlying49
  have HR0 := Aside0.mk hr0
  have HC0 := Aside0.mk hc0
  have HPF := Aside0.mk hpf
  clear hr0 hc0 hpf
  obtain ⟨t, h1, h⟩ := Option.bind_eq_some_iff.mp h
  replace h1 := Aside0.mk h1
  have HW0 := Aside0.mk (below_alloc (Below.refl w.heap.size w) (.cells #[.func (.func g1) #[] #[], .func (.func g2) #[] #[]] 57))
  cases t with
  | false =>
    rw [if_neg (by decide)] at h
    simp only [Option.some.injEq, Prod.mk.injEq] at h
    obtain ⟨rfl, rfl, rfl⟩ := h
    go_enter Try.func63, Try.ntmps63
    go_wp2_with fail
    refine (impl_IsRight.calls k _ _ l0 false _ (Kd.C_below HR0.out HW0.out) HC0.out h1.out).mono ?_
    rintro e w1 ⟨rfl, hb1⟩
    have HB1 := Aside0.mk (below_step HW0.out hb1)
    clear hb1
    go_wp2
    go_ret3
    exact ⟨_, rfl, Kd.R_nil _ _ _ _ _, HB1.out⟩
  | true =>
    rw [if_pos rfl] at h
    obtain ⟨⟨pm, pn⟩, h3, h⟩ := Option.bind_eq_some_iff.mp h
    obtain ⟨⟨qm, qn, qk⟩, h4, h⟩ := Option.bind_eq_some_iff.mp h
    replace h3 := Aside0.mk h3
    replace h4 := Aside0.mk h4
    have h := Aside0.mk h
    go_enter Try.func63, Try.ntmps63
    go_wp2_with fail
    refine (impl_IsRight.calls k _ _ l0 true _ (Kd.C_below HR0.out HW0.out) HC0.out h1.out).mono ?_
    rintro e w1 ⟨rfl, hb1⟩
    have HB1 := Aside0.mk (below_step HW0.out hb1)
    have hc1 : w1.cell? ⟨w.heap.size, 1, none⟩ = some (.func (.func g2) #[] #[]) := (hb1.cell (p := ⟨w.heap.size, 1, none⟩) (by simp)).trans (by simp)
    have HN1 := Aside0.mk (show w.heap.size < w1.heap.size from Nat.lt_of_lt_of_le (by simp) hb1.size)
    clear hb1
    have hpo : ∀ W, Below w1.heap.size w1 W → W.cell? ⟨w.heap.size, 1, none⟩ = some (.func (.func g2) #[] #[]) → Calls Try.prog 53 #[.slice A0 l0.length c0] W fun e w' => e = .returned (.agg #[.int .i64 pm, .int .i64 pn]) ∧ Below w1.heap.size w1 w' ∧ w'.cell? ⟨w.heap.size, 1, none⟩ = some (.func (.func g2) #[] #[]) ∧ Below W.heap.size W w' := fun W hW hc => (impl_pairOf.calls k _ _ l0 pm pn _ (Kd.C_below HR0.out (below_then HB1.out HB1.out.size hW)) HC0.out h3.out).mono fun e w' ⟨he, hb⟩ => ⟨he, below_step hW hb, (hb.cell (World.block_lt_of_cell? _ _ hc)).trans hc, hb⟩
    have hch : ∀ W, Below w1.heap.size w1 W → W.cell? ⟨w.heap.size, 1, none⟩ = some (.func (.func g2) #[] #[]) → Calls Try.prog g2 #[.agg #[.int .i64 pm, .int .i64 pn]] W fun e w' => e = .returned (.tuple #[.agg #[.int .i64 qm, .int .i64 qn], .int .i64 qk]) ∧ Below w1.heap.size w1 w' ∧ w'.cell? ⟨w.heap.size, 1, none⟩ = some (.func (.func g2) #[] #[]) ∧ Below W.heap.size W w' := fun W hW hc => (HPF.out pm pn qm qn qk _ h4.out).mono fun e w' ⟨he, hb⟩ => ⟨he, below_step hW hb, (hb.cell (World.block_lt_of_cell? _ _ hc)).trans hc, hb⟩
    replace hpo := Aside0.mk hpo
    replace hch := Aside0.mk hch
    go_wp2_with fail
    refine start_ (n := 11) (S := fun w' => w'.cell? ⟨w.heap.size, 1, none⟩ = some (.func (.func g2) #[] #[])) (ds := []) #[false, false, false, false, false, false, false, false, false, false, false] (by kernel_rfl) rfl rfl hc1 (fun hHeld => ?_)
    generalize hw2_ : World.drew w1 = w2 at hHeld ⊢
    have HB2 := Aside0.mk (show Below w1.heap.size w1 w2 by rw [← hw2_]; exact below_drew (Below.refl _ _))
    clear hw2_
    refine pure_ (i := 0) (N := some 15) (v := ?_) (a' := ?_) #[true, false, false, false, false, false, false, false, false, false, false] rfl rfl (by kernel_rfl) (fun _ _ _ h => h) (Or.inl ⟨by rfl, ?_⟩) ?_ ?_
    rotate_left
    · intro w'
      go_simp
      with_reducible rfl
    rotate_left
    · simp only [Act.put, List.setIfInBounds_toArray, List.set_cons_zero, List.set_cons_succ, i64_w, i32_w]
      rfl
    refine take_ (i := 1) (N := some 16) (v := ?_) (a' := ?_) #[true, true, false, false, false, false, false, false, false, false, false] rfl rfl (by kernel_rfl) (fun _ _ _ h => h) (Or.inl ⟨by rfl, ?_⟩) hHeld ?_ ?_
    rotate_left
    · rintro w' s0
      go_simp
      with_reducible rfl
    rotate_left
    · simp only [Act.put, List.setIfInBounds_toArray, List.set_cons_zero, List.set_cons_succ, i64_w, i32_w]
      rfl
    refine pure_ (i := 2) (N := some 17) (v := ?_) (a' := ?_) #[true, true, true, false, false, false, false, false, false, false, false] rfl rfl (by kernel_rfl) (fun _ _ _ h => h) (Or.inl ⟨by rfl, ?_⟩) ?_ ?_
    rotate_left
    · intro w'
      go_simp
      with_reducible rfl
    rotate_left
    · simp only [Act.put, List.setIfInBounds_toArray, List.set_cons_zero, List.set_cons_succ, i64_w, i32_w]
      rfl
    refine join_ (σ := Nat) 2 #[true, true, true, true, true, true, true, true, true, false, false] (fun s_ => [(18, .agg #[.int .i64 pm, .int .i64 pn]), (19, .tuple #[.agg #[.int .i64 qm, .int .i64 qn], .int .i64 qk]), (14, .tuple #[.agg #[.int .i64 qm, .int .i64 qn], .int .i64 qk]), (20, .agg #[.int .i64 qm, .int .i64 qn]), (21, .int .i64 qk), (7, .pointer (some ⟨s_, 0, none⟩))]) (fun s_ w' => w'.cell? ⟨w.heap.size, 1, none⟩ = some (.func (.func g2) #[] #[]) ∧ Below w1.heap.size w1 w' ∧ w1.heap.size ≤ s_ ∧ w'.heap[s_]? = some (.cells #[.int .i64 0, .int .i64 0] 49 (0, 0))) ?_ ?_
    rotate_left
    · intro hCont
      refine two_ (i := 3) (j := 8) (Ni := some 18) (Nj := some 7) #[true, true, true, true, false, false, false, false, false, false, false] #[true, true, true, false, false, false, false, false, true, false, false] rfl rfl rfl rfl (by kernel_rfl) (by decide) (by decide) (fun K hK => ?_) (fun K hK => ?_)
      · skip
        refine goes_ Try.func53 (by kernel_rfl) rfl #[.slice A0 l0.length c0] (by rfl) rfl rfl (by (try simp only [List.map_toArray, List.map_cons, List.map_nil]); first | done | rfl) ?_
        refine (hpo.out _ HB2.out hHeld).mono ?_
        rintro e w3 ⟨rfl, hb_, hc_, hk_⟩
        refine ⟨_, rfl, ?_⟩
        have HBw3 := Aside0.mk hb_
        have HKw3 := Aside0.mk hk_
        clear hb_ hk_
        refine hK.out _ _ hc_ (fun hHeld => ?_)
        clear hK K hc_
        refine norm_ (a' := ?_) ?_ ?_
        rotate_left
        · show Act.put _ (some 18) _ = _
          simp only [Act.put, List.setIfInBounds_toArray, List.set_cons_zero, List.set_cons_succ, i64_w, i32_w]
          rfl
        refine two_ (i := 4) (j := 8) (Ni := some 19) (Nj := some 7) #[true, true, true, true, true, false, false, false, false, false, false] #[true, true, true, true, false, false, false, false, true, false, false] rfl rfl rfl rfl (by kernel_rfl) (by decide) (by decide) (fun K hK => ?_) (fun K hK => ?_)
        · skip
          refine goesF_ eg #[.agg #[.int .i64 pm, .int .i64 pn]] (by rfl) rfl (.tmp 16) #[] rfl rfl (by (try simp only [List.map_toArray, List.map_cons, List.map_nil]); first | done | rfl) ?_
          refine (hch.out _ HBw3.out hHeld).mono ?_
          rintro e w4 ⟨rfl, hb_, hc_, hk_⟩
          refine ⟨_, rfl, ?_⟩
          have HBw4 := Aside0.mk hb_
          have HKw4 := Aside0.mk hk_
          clear hb_ hk_
          refine hK.out _ _ hc_ (fun hHeld => ?_)
          clear hK K hc_
          refine norm_ (a' := ?_) ?_ ?_
          rotate_left
          · show Act.put _ (some 19) _ = _
            simp only [Act.put, List.setIfInBounds_toArray, List.set_cons_zero, List.set_cons_succ, i64_w, i32_w]
            rfl
          refine pure_ (i := 5) (N := some 14) (v := ?_) (a' := ?_) #[true, true, true, true, true, true, false, false, false, false, false] rfl rfl (by kernel_rfl) (fun _ _ _ h => h) (Or.inl ⟨by rfl, ?_⟩) ?_ ?_
          rotate_left
          · intro w'
            go_simp
            with_reducible rfl
          rotate_left
          · simp only [Act.put, List.setIfInBounds_toArray, List.set_cons_zero, List.set_cons_succ, i64_w, i32_w]
            rfl
          refine pure_ (i := 6) (N := some 20) (v := ?_) (a' := ?_) #[true, true, true, true, true, true, true, false, false, false, false] rfl rfl (by kernel_rfl) (fun _ _ _ h => h) (Or.inl ⟨by rfl, ?_⟩) ?_ ?_
          rotate_left
          · intro w'
            go_simp
            with_reducible rfl
          rotate_left
          · simp only [Act.put, List.setIfInBounds_toArray, List.set_cons_zero, List.set_cons_succ, i64_w, i32_w]
            rfl
          refine pure_ (i := 7) (N := some 21) (v := ?_) (a' := ?_) #[true, true, true, true, true, true, true, true, false, false, false] rfl rfl (by kernel_rfl) (fun _ _ _ h => h) (Or.inl ⟨by rfl, ?_⟩) ?_ ?_
          rotate_left
          · intro w'
            go_simp
            with_reducible rfl
          rotate_left
          · simp only [Act.put, List.setIfInBounds_toArray, List.set_cons_zero, List.set_cons_succ, i64_w, i32_w]
            rfl
          refine one_ (i := 8) (N := some 7) #[true, true, true, true, true, true, true, true, true, false, false] rfl rfl (by kernel_rfl) (by decide) (fun K hK => ?_)
          refine box_step ?hg (N := 7) ?hd (cs := #[.int .i64 0, .int .i64 0]) (t := 49) ?hr ?_; (case hd => rfl); (case hg => rfl); (case hr => first | (go_simp; done) | (go_simp; rfl))
          intro gb hgb w5 hbox_ hb_
          have BKw5 := Aside0.mk hbox_
          have HBw5 := Aside0.mk (below_step HBw4.out hb_)
          have GEw5 := Aside0.mk (show w1.heap.size ≤ gb by rw [hgb]; exact HBw4.out.size)
          refine hK.out _ _ (pw_cell_below hb_ hHeld) (fun hHeld => ?_)
          clear hK K hgb hbox_ hb_
          refine norm_ (a' := ?_) ?_ ?_
          rotate_left
          · show Act.put _ (some 7) _ = _
            simp only [Act.put, List.setIfInBounds_toArray, List.set_cons_zero, List.set_cons_succ, i64_w, i32_w]
            rfl
          exact norm_ (by simp only [putAll, Act.put, List.setIfInBounds_toArray, List.set_cons_zero, List.set_cons_succ]) (hCont gb _ ⟨hHeld, HBw5.out, GEw5.out, BKw5.out⟩)
        · skip
          refine box_step ?hg (N := 7) ?hd (cs := #[.int .i64 0, .int .i64 0]) (t := 49) ?hr ?_; (case hd => rfl); (case hg => rfl); (case hr => first | (go_simp; done) | (go_simp; rfl))
          intro gb hgb w4 hbox_ hb_
          have BKw4 := Aside0.mk hbox_
          have HBw4 := Aside0.mk (below_step HBw3.out hb_)
          have GEw4 := Aside0.mk (show w1.heap.size ≤ gb by rw [hgb]; exact HBw3.out.size)
          refine hK.out _ _ (pw_cell_below hb_ hHeld) (fun hHeld => ?_)
          clear hK K hgb hbox_ hb_
          refine norm_ (a' := ?_) ?_ ?_
          rotate_left
          · show Act.put _ (some 7) _ = _
            simp only [Act.put, List.setIfInBounds_toArray, List.set_cons_zero, List.set_cons_succ, i64_w, i32_w]
            rfl
          refine one_ (i := 4) (N := some 19) #[true, true, true, true, true, false, false, false, true, false, false] rfl rfl (by kernel_rfl) (by decide) (fun K hK => ?_)
          refine goesF_ eg #[.agg #[.int .i64 pm, .int .i64 pn]] (by rfl) rfl (.tmp 16) #[] rfl rfl (by (try simp only [List.map_toArray, List.map_cons, List.map_nil]); first | done | rfl) ?_
          refine (hch.out _ HBw4.out hHeld).mono ?_
          rintro e w5 ⟨rfl, hb_, hc_, hk_⟩
          refine ⟨_, rfl, ?_⟩
          have HBw5 := Aside0.mk hb_
          have HKw5 := Aside0.mk hk_
          clear hb_ hk_
          refine hK.out _ _ hc_ (fun hHeld => ?_)
          clear hK K hc_
          refine norm_ (a' := ?_) ?_ ?_
          rotate_left
          · show Act.put _ (some 19) _ = _
            simp only [Act.put, List.setIfInBounds_toArray, List.set_cons_zero, List.set_cons_succ, i64_w, i32_w]
            rfl
          refine pure_ (i := 5) (N := some 14) (v := ?_) (a' := ?_) #[true, true, true, true, true, true, false, false, true, false, false] rfl rfl (by kernel_rfl) (fun _ _ _ h => h) (Or.inl ⟨by rfl, ?_⟩) ?_ ?_
          rotate_left
          · intro w'
            go_simp
            with_reducible rfl
          rotate_left
          · simp only [Act.put, List.setIfInBounds_toArray, List.set_cons_zero, List.set_cons_succ, i64_w, i32_w]
            rfl
          refine pure_ (i := 6) (N := some 20) (v := ?_) (a' := ?_) #[true, true, true, true, true, true, true, false, true, false, false] rfl rfl (by kernel_rfl) (fun _ _ _ h => h) (Or.inl ⟨by rfl, ?_⟩) ?_ ?_
          rotate_left
          · intro w'
            go_simp
            with_reducible rfl
          rotate_left
          · simp only [Act.put, List.setIfInBounds_toArray, List.set_cons_zero, List.set_cons_succ, i64_w, i32_w]
            rfl
          refine pure_ (i := 7) (N := some 21) (v := ?_) (a' := ?_) #[true, true, true, true, true, true, true, true, true, false, false] rfl rfl (by kernel_rfl) (fun _ _ _ h => h) (Or.inl ⟨by rfl, ?_⟩) ?_ ?_
          rotate_left
          · intro w'
            go_simp
            with_reducible rfl
          rotate_left
          · simp only [Act.put, List.setIfInBounds_toArray, List.set_cons_zero, List.set_cons_succ, i64_w, i32_w]
            rfl
          exact norm_ (by simp only [putAll, Act.put, List.setIfInBounds_toArray, List.set_cons_zero, List.set_cons_succ]) (hCont gb _ ⟨hHeld, HBw5.out, GEw4.out, (blk_below BKw4.out HKw5.out)⟩)
      · skip
        refine box_step ?hg (N := 7) ?hd (cs := #[.int .i64 0, .int .i64 0]) (t := 49) ?hr ?_; (case hd => rfl); (case hg => rfl); (case hr => first | (go_simp; done) | (go_simp; rfl))
        intro gb hgb w3 hbox_ hb_
        have BKw3 := Aside0.mk hbox_
        have HBw3 := Aside0.mk (below_step HB2.out hb_)
        have GEw3 := Aside0.mk (show w1.heap.size ≤ gb by rw [hgb]; exact HB2.out.size)
        refine hK.out _ _ (pw_cell_below hb_ hHeld) (fun hHeld => ?_)
        clear hK K hgb hbox_ hb_
        refine norm_ (a' := ?_) ?_ ?_
        rotate_left
        · show Act.put _ (some 7) _ = _
          simp only [Act.put, List.setIfInBounds_toArray, List.set_cons_zero, List.set_cons_succ, i64_w, i32_w]
          rfl
        refine one_ (i := 3) (N := some 18) #[true, true, true, true, false, false, false, false, true, false, false] rfl rfl (by kernel_rfl) (by decide) (fun K hK => ?_)
        refine goes_ Try.func53 (by kernel_rfl) rfl #[.slice A0 l0.length c0] (by rfl) rfl rfl (by (try simp only [List.map_toArray, List.map_cons, List.map_nil]); first | done | rfl) ?_
        refine (hpo.out _ HBw3.out hHeld).mono ?_
        rintro e w4 ⟨rfl, hb_, hc_, hk_⟩
        refine ⟨_, rfl, ?_⟩
        have HBw4 := Aside0.mk hb_
        have HKw4 := Aside0.mk hk_
        clear hb_ hk_
        refine hK.out _ _ hc_ (fun hHeld => ?_)
        clear hK K hc_
        refine norm_ (a' := ?_) ?_ ?_
        rotate_left
        · show Act.put _ (some 18) _ = _
          simp only [Act.put, List.setIfInBounds_toArray, List.set_cons_zero, List.set_cons_succ, i64_w, i32_w]
          rfl
        refine one_ (i := 4) (N := some 19) #[true, true, true, true, true, false, false, false, true, false, false] rfl rfl (by kernel_rfl) (by decide) (fun K hK => ?_)
        refine goesF_ eg #[.agg #[.int .i64 pm, .int .i64 pn]] (by rfl) rfl (.tmp 16) #[] rfl rfl (by (try simp only [List.map_toArray, List.map_cons, List.map_nil]); first | done | rfl) ?_
        refine (hch.out _ HBw4.out hHeld).mono ?_
        rintro e w5 ⟨rfl, hb_, hc_, hk_⟩
        refine ⟨_, rfl, ?_⟩
        have HBw5 := Aside0.mk hb_
        have HKw5 := Aside0.mk hk_
        clear hb_ hk_
        refine hK.out _ _ hc_ (fun hHeld => ?_)
        clear hK K hc_
        refine norm_ (a' := ?_) ?_ ?_
        rotate_left
        · show Act.put _ (some 19) _ = _
          simp only [Act.put, List.setIfInBounds_toArray, List.set_cons_zero, List.set_cons_succ, i64_w, i32_w]
          rfl
        refine pure_ (i := 5) (N := some 14) (v := ?_) (a' := ?_) #[true, true, true, true, true, true, false, false, true, false, false] rfl rfl (by kernel_rfl) (fun _ _ _ h => h) (Or.inl ⟨by rfl, ?_⟩) ?_ ?_
        rotate_left
        · intro w'
          go_simp
          with_reducible rfl
        rotate_left
        · simp only [Act.put, List.setIfInBounds_toArray, List.set_cons_zero, List.set_cons_succ, i64_w, i32_w]
          rfl
        refine pure_ (i := 6) (N := some 20) (v := ?_) (a' := ?_) #[true, true, true, true, true, true, true, false, true, false, false] rfl rfl (by kernel_rfl) (fun _ _ _ h => h) (Or.inl ⟨by rfl, ?_⟩) ?_ ?_
        rotate_left
        · intro w'
          go_simp
          with_reducible rfl
        rotate_left
        · simp only [Act.put, List.setIfInBounds_toArray, List.set_cons_zero, List.set_cons_succ, i64_w, i32_w]
          rfl
        refine pure_ (i := 7) (N := some 21) (v := ?_) (a' := ?_) #[true, true, true, true, true, true, true, true, true, false, false] rfl rfl (by kernel_rfl) (fun _ _ _ h => h) (Or.inl ⟨by rfl, ?_⟩) ?_ ?_
        rotate_left
        · intro w'
          go_simp
          with_reducible rfl
        rotate_left
        · simp only [Act.put, List.setIfInBounds_toArray, List.set_cons_zero, List.set_cons_succ, i64_w, i32_w]
          rfl
        exact norm_ (by simp only [putAll, Act.put, List.setIfInBounds_toArray, List.set_cons_zero, List.set_cons_succ]) (hCont gb _ ⟨hHeld, HBw5.out, GEw3.out, (blk_below (blk_below BKw3.out HKw4.out) HKw5.out)⟩)
    rintro gb wz ⟨hHeld, hbz_, gez_, bkz_⟩
    have HBz := Aside0.mk hbz_
    have GEz := Aside0.mk gez_
    have BKz := Aside0.mk bkz_
    clear hbz_ gez_ bkz_
    refine norm_ (a' := ?_) ?_ ?_
    rotate_left
    · simp only [putAll, Act.put, List.setIfInBounds_toArray, List.set_cons_zero, List.set_cons_succ]
      rfl
    refine one_ (i := 9) (N := none) #[true, true, true, true, true, true, true, true, true, true, false] rfl rfl (by kernel_rfl) (by decide) (fun K hK => ?_)
    have hs0_ : wz.cell? ⟨gb, 0, none⟩ = some (.int .i64 0) := (blk_cell BKz.out 0).trans rfl
    have hf0_ := blk_frozen BKz.out 0
    have hs1_ : wz.cell? ⟨gb, 1, none⟩ = some (.int .i64 0) := (blk_cell BKz.out 1).trans rfl
    have hf1_ := blk_frozen BKz.out 1
    refine skip_ (w1 := ?_) (by rfl) rfl ?_ ?_
    rotate_left
    · go_simp
      rfl
    refine hK.out _ _ ((cell_far (p := ⟨gb, _, none⟩) (Nat.ne_of_lt (Nat.lt_of_lt_of_le HN1.out GEz.out)) _).trans ((cell_far (p := ⟨gb, _, none⟩) (Nat.ne_of_lt (Nat.lt_of_lt_of_le HN1.out GEz.out)) _).trans hHeld)) (fun hHeld => ?_)
    clear hK K hs0_ hf0_ hs1_ hf1_
    refine pure_ (i := 10) (N := some 8) (v := ?_) (a' := ?_) #[true, true, true, true, true, true, true, true, true, true, true] rfl rfl (by kernel_rfl) (fun _ _ _ h => h) (Or.inl ⟨by rfl, ?_⟩) ?_ ?_
    rotate_left
    · intro w'
      go_simp
      with_reducible rfl
    rotate_left
    · simp only [Act.put, List.setIfInBounds_toArray, List.set_cons_zero, List.set_cons_succ, i64_w, i32_w]
      rfl
    refine done_ (by kernel_rfl) ?_
    have BK9 := Aside0.mk (blk_put (cs := #[.int .i64 qm, .int .i64 0]) (blk_put (cs := #[.int .i64 0, .int .i64 0]) BKz.out 0 (.int .i64 qm) rfl) 1 (.int .i64 qn) rfl)
    have HB9 := Aside0.mk (show Below w1.heap.size w1 ((wz.setCell ⟨gb, 0, none⟩ (.int .i64 qm)).setCell ⟨gb, 1, none⟩ (.int .i64 qn)) from below_set (below_set HBz.out GEz.out) GEz.out)
    clear BKz HBz
    generalize (wz.setCell ⟨gb, 0, none⟩ (.int .i64 qm)).setCell ⟨gb, 1, none⟩ (.int .i64 qn) = w9 at BK9 HB9 hHeld ⊢
    have HB10 := Aside0.mk (below_then HB1.out HB1.out.size HB9.out)
    have H := h.out
    clear h hpo hch
    by_cases c1 : qk < 0
    · rw [if_pos c1] at H
      have c1b : decide (qk < 0) = true := decide_eq_true c1
      simp only [Option.some.injEq, Prod.mk.injEq] at H
      obtain ⟨rfl, rfl, rfl⟩ := H
      clear c1
      go_wp2
      go_ret3
      exact ⟨_, rfl, Kd.R_nil _ _ _ _ _, HB10.out⟩
    · rw [if_neg c1] at H
      have c1b : decide (qk < 0) = false := decide_eq_false c1
      obtain ⟨⟨x1, x2⟩, h5, H⟩ := Option.bind_eq_some_iff.mp H
      simp only [Option.some.injEq, Prod.mk.injEq] at H
      obtain ⟨rfl, rfl, rfl⟩ := H
      replace h5 := Aside0.mk h5
      have hx0 : w9.cell? ⟨gb, 0, none⟩ = some (.int .i64 qm) := (blk_cell BK9.out 0).trans rfl
      have hx1 : w9.cell? ⟨gb, 1, none⟩ = some (.int .i64 qn) := (blk_cell BK9.out 1).trans rfl
      clear c1
      go_wp2_with fail
      refine (impl_pair_right.calls qm qn x1 x2 _ h5.out).mono ?_
      rintro e wa ⟨va, rfl, hr, hb⟩
      have HRa := Aside0.mk (Kd.R_lower hr HB10.out.size)
      have HBa := Aside0.mk (below_step HB10.out hb)
      clear hr hb
      go_wp2
      go_ret3
      exact ⟨_, rfl, HRa.out, HBa.out⟩

end Go.Proofs.Ytmjgklpccdigfaa.P
