/- For every input the statement FnCirclesTouch holds of what the program and the reference compute, told as plain Lean functions; there is no further condition. -/
import Derived.Test.YtkllcinoodfffaaP0
import Derived.Test.YtkllcinoodfffaaP1
import Derived.Test.YtkllcinoodfffaaP5
import Derived.Test.YtkllcinoodfffaaP6
import Derived.Test.YtkllcinoodfffaaP7
import Derived.Test.YtkllcinoodfffaaP8
import Derived.Test.YtkllcinoodfffaaDevFnCirclesTouch
import Derived.Test.YtkllcinoodfffaaLeFnCirclesTouch
import Derived.Laws.BitsAllLaws
namespace Go.Proofs.Ytkllcinoodfffaa.Pure
open Go.RowKit Go.Proofs.Ytkllcinoodfffaa.P Go.Proofs.YtkllcinoodfffaaW.PrintWords Go.Proofs.YtkllcinoodfffaaW.PrintLast Go.Proofs.YtkllcinoodfffaaW.PrintMore

theorem circle_ok {s : List Int} (hs : Bytes s) {a : Int} (z : Int) (h0 : 0 ≤ a) (h1 : a ≤ 1000) : ∃ r0 r1 r2 r3 a' z', Ev (fun k => spec_l1Cur_circle.f k s a z) (r0, r1, r2, r3, a', z') ∧ a ≤ a' ∧ a' ≤ a + 30 := by
  obtain ⟨q, a1, z1, he, hq, p0, p1⟩ := config_ok hs z h0 (by omega)
  have j0 : ∀ (a z x0 x1 x2 x3 : Int), 0 ≤ a → a ≤ 2000 → ∃ r0 r1 r2 r3 a' z', Ev (fun k => spec_l1Cur_circle.j0 k s a z x0 x1 x2 x3) (r0, r1, r2, r3, a', z') ∧ a ≤ a' ∧ a' ≤ a + 4 := by
    intro a z x0 x1 x2 x3 h0 h1
    obtain ⟨x, a1, z1, hp, _, _, p0, p1⟩ := pick_ok hs z h0 (by omega) (n := 16) (by omega)
    by_cases c0 : x = 0
    · obtain ⟨v, a2, z2, hp2, hv, p2, p3⟩ := among_ok hs (a := a1) z1 (by omega) (by omega) (l := [1, (-1), 1000000]) (by simp) (by simp)
      refine ⟨_, _, _, _, a2, z2, Ev.step (f := fun _ => some (wrap64 (x0 + v), x1, x2, x3, a2, z2)) (fun k => ?_) (Ev.now _), by omega, by omega⟩
      rw [spec_l1Cur_circle.j0, hp]
      simp only [Option.bind_some]
      rw [if_pos c0, hp2]
      rfl
    · by_cases c1 : x = 1
      · refine ⟨_, _, _, _, a1, z1, Ev.step (f := fun _ => some (1000000, 0, 0, 1, a1, z1)) (fun k => ?_) (Ev.now _), by omega, by omega⟩
        rw [spec_l1Cur_circle.j0, hp]
        simp only [Option.bind_some]
        rw [if_neg c0, if_pos c1]
      · by_cases c2 : x = 2
        · obtain ⟨v, a2, z2, hp2, hv, p2, p3⟩ := among_ok hs (a := a1) z1 (by omega) (by omega) (l := [(-9223372036854775808), 4611686018427387904]) (by simp) (by simp)
          refine ⟨_, _, _, _, a2, z2, Ev.step (f := fun _ => some (v, 2, 0, 0, a2, z2)) (fun k => ?_) (Ev.now _), by omega, by omega⟩
          rw [spec_l1Cur_circle.j0, hp]
          simp only [Option.bind_some]
          rw [if_neg c0, if_neg c1, if_pos c2, hp2]
          rfl
        · refine ⟨_, _, _, _, a1, z1, Ev.step (f := fun _ => some (x0, x1, x2, x3, a1, z1)) (fun k => ?_) (Ev.now _), by omega, by omega⟩
          rw [spec_l1Cur_circle.j0, hp]
          simp only [Option.bind_some]
          rw [if_neg c0, if_neg c1, if_neg c2]
  by_cases hl : (q.length : Int) > 0
  · obtain ⟨i, a2, z2, hp2, i0, iN, p2, p3⟩ := pick_ok hs (a := a1) z1 (by omega) (by omega) (n := (q.length : Int)) (by omega)
    obtain ⟨r0, r1, r2, r3, a3, z3, e3, p4, p5⟩ := j0 a2 z2 (rd_T25 q i).f0 (rd_T25 q i).f1 (rd_T25 q i).f2 (rd_T25 q i).f3 (by omega) (by omega)
    refine ⟨r0, r1, r2, r3, a3, z3, ?_, by omega, by omega⟩
    unfold spec_l1Cur_circle.f
    refine Ev.bind he ?_
    simp only [if_pos hl, hp2, Option.bind_some, if_pos i0, if_pos (iN (by omega))]
    exact e3
  · obtain ⟨r0, r1, r2, r3, a3, z3, e3, p4, p5⟩ := j0 a1 z1 0 0 1 0 (by omega) (by omega)
    refine ⟨r0, r1, r2, r3, a3, z3, ?_, by omega, by omega⟩
    unfold spec_l1Cur_circle.f
    refine Ev.bind he ?_
    simp only [if_neg hl]
    exact e3
theorem drawT {s : List Int} (hs : Bytes s) : ∃ x y : S25, Ev (fun k => spec_DrawTwiceProduct.f k s) (x.f0, x.f1, x.f2, x.f3, y.f0, y.f1, y.f2, y.f3) := by
  obtain ⟨q, a1, z1, he, hq, p0, p1⟩ := config_ok hs (a := 0) 0 (by omega) (by omega)
  have jf : ∀ a z : Int, 0 ≤ a → a ≤ 100 → ∃ x y : S25, Ev (fun k => spec_DrawTwiceProduct.j0 k q false s a z) (x.f0, x.f1, x.f2, x.f3, y.f0, y.f1, y.f2, y.f3) := by
    intro a z h0 h1
    obtain ⟨r0, r1, r2, r3, a3, z3, e3, p4, p5⟩ := circle_ok hs z h0 (by omega)
    obtain ⟨t0, t1, t2, t3, a4, z4, e4, p6, p7⟩ := circle_ok hs (a := a3) z3 (by omega) (by omega)
    refine ⟨⟨r0, r1, r2, r3⟩, ⟨t0, t1, t2, t3⟩, Ev.step (fun _ => spec_DrawTwiceProduct.j0.eq_2 ..) ?_⟩
    simp only [Bool.false_eq_true, if_false]
    exact Ev.bind e3 (Ev.bind e4 (Ev.now _))
  by_cases hl : (q.length : Int) > 1
  · obtain ⟨t, a2, z2, hp, p2, p3⟩ := one_ok hs (a := a1) z1 (by omega) (by omega) (n := 2) (by omega)
    by_cases ht : t = true
    · obtain ⟨i, a3, z3, hp2, i0, iN, p4, p5⟩ := pick_ok hs (a := a2) z2 (by omega) (by omega) (n := (q.length : Int)) (by omega)
      refine ⟨rd_T25 q 0, rd_T25 q i, ?_⟩
      unfold spec_DrawTwiceProduct.f
      refine Ev.bind he ?_
      simp only [if_pos hl, hp, Option.bind_some, ht]
      refine Ev.step (fun _ => spec_DrawTwiceProduct.j0.eq_2 ..) ?_
      simp only [if_true, if_pos (show 0 < (q.length : Int) by omega), hp2, Option.bind_some, if_pos i0, if_pos (iN (by omega))]
      exact Ev.now _
    · obtain ⟨x, y, e⟩ := jf a2 z2 (by omega) (by omega)
      refine ⟨x, y, ?_⟩
      unfold spec_DrawTwiceProduct.f
      refine Ev.bind he ?_
      simp only [if_pos hl, hp, Option.bind_some, Bool.eq_false_iff.2 ht]
      exact e
  · obtain ⟨x, y, e⟩ := jf a1 z1 (by omega) (by omega)
    refine ⟨x, y, ?_⟩
    unfold spec_DrawTwiceProduct.f
    refine Ev.bind he ?_
    simp only [if_neg hl]
    exact e
theorem drawR {s : List Int} (hs : Bytes s) : ∃ x y : S25, Ev (fun k => spec_DrawReflectCircle.f k s) (x.f0, x.f1, x.f2, x.f3, y.f0, y.f1, y.f2, y.f3) := by
  obtain ⟨x, y, e⟩ := drawT hs
  exact ⟨x, y, Ev.bind e (Ev.now _)⟩
theorem drawS {s : List Int} (hs : Bytes s) : ∃ (x : S25) (i j : Int), Ev (fun k => spec_DrawShiftCircle.f k s) (x.f0, x.f1, x.f2, x.f3, i, j) := by
  obtain ⟨r0, r1, r2, r3, a3, z3, e3, p4, p5⟩ := circle_ok hs (a := 0) 0 (by omega) (by omega)
  obtain ⟨v, a2, z2, hp2, hv, p2, p3⟩ := among_ok hs (a := a3) z3 (by omega) (by omega) (l := [0, 1, (-1), 3, (-7), 1000, (-1000), 1001]) (by simp) (by simp)
  obtain ⟨u, a4, z4, hp4, hu, p6, p7⟩ := among_ok hs (a := a2) z2 (by omega) (by omega) (l := [0, 1, (-1), 2, 5, 1000, (-1001)]) (by simp) (by simp)
  refine ⟨⟨r0, r1, r2, r3⟩, v, u, ?_⟩
  unfold spec_DrawShiftCircle.f
  refine Ev.bind e3 ?_
  simp only [hp2, hp4, Option.bind_some]
  exact Ev.now _
theorem shI (x : S25) (i j : Int) : impl_ShiftCircle.f x.f0 x.f1 x.f2 x.f3 i j = some (shR x i j) := (shift_both ..).2
theorem shSp (x : S25) (i j : Int) : Ev (fun k => spec_ShiftCircle.f k x.f0 x.f1 x.f2 x.f3 i j) (shR x i j) := shift_spec ..
theorem isI (x : S25) : impl_IsCircle.f x.f0 x.f1 x.f2 x.f3 = some (isC x) := impl_isC ..
theorem t_j5 (x y : S25) : Ev (fun k => laws_FnCirclesTouch.j5 k (reR x y).2.2.2.2 false x.f0 x.f1 x.f2 x.f3 y.f0 y.f1 y.f2 y.f3 (reR x y).1 (reR x y).2.1 (reR x y).2.2.1 (reR x y).2.2.2.1) true := by
  refine Ev.step (fun _ => laws_FnCirclesTouch.j5.eq_2 ..) ?_
  simp only [Bool.false_eq_true, if_false]
  by_cases h : (reR x y).2.2.2.2 = true
  · obtain ⟨⟨⟨hx, hy⟩, hq⟩, e⟩ := reR_true h
    have hc : isC (rfl_ x y) = true := by rw [rfl_q hx hy]; exact hq
    have hb : reR (rfl_ x y) y = (x.f0, x.f1, x.f2, x.f3, true) := by
      have e2 := rfl_back (x := x) (isC_q hy)
      unfold reR
      rw [e2, if_pos ⟨⟨hc, hy⟩, by rw [← isC_mix (isC_q hx)]; exact hx⟩]
    rw [e]
    simp only [if_true, reI, hb, isI, hc, Option.bind_some, beq_self_eq_true, Bool.and_self]
    exact Ev.now _
  · simp only [if_neg h]
    exact Ev.now _
theorem t_j4 {l1 : List Int} (h1 : Bytes l1) : Ev (fun k => laws_FnCirclesTouch.j4 k l1) true := by
  obtain ⟨x, y, hd⟩ := drawR h1
  refine Ev.step (fun _ => laws_FnCirclesTouch.j4.eq_2 ..) ?_
  refine Ev.bind hd ?_
  simp only [reI, Option.bind_some]
  refine Ev.bind (reS x y) ?_
  simp only [bne_self_eq_false, Bool.false_eq_true, if_false, beq_self_eq_true, Bool.not_true, Bool.or_self]
  exact t_j5 x y
theorem t_j3 {l1 : List Int} (h1 : Bytes l1) (c e : S25) (i j : Int) (h : isC e = true ∧ inB (-1000) 1000 i = true ∧ inB (-1000) 1000 j = true ∧ isC (shv e i j) = true) : Ev (fun k => laws_FnCirclesTouch.j3 k l1 i j false c.f0 c.f1 c.f2 c.f3 e.f0 e.f1 e.f2 e.f3 (shv e i j).f0 (shv e i j).f1 (shv e i j).f2 (shv e i j).f3) true := by
  refine Ev.step (fun _ => laws_FnCirclesTouch.j3.eq_2 ..) ?_
  simp only [Bool.false_eq_true, if_false, shI, tpI, Option.bind_some]
  by_cases h6 : (shR c i j).2.2.2.2 = true
  · obtain ⟨⟨hc, _, _, hs⟩, ee⟩ := shR_true h6
    rw [ee]
    simp only [if_true, tpI, Option.bind_some]
    have e1 : tpR c e = (twi c e, true) := if_pos ⟨hc, h.1⟩
    have e2 : tpR (shv c i j) (shv e i j) = (twi c e, true) := by
      unfold tpR
      rw [if_pos ⟨hs, h.2.2.2⟩, twi_sh]
    simp only [e1, e2, if_true]
    exact t_j4 h1
  · generalize shR c i j = S at h6
    have t : ∃ p, impl_TwiceProduct.f S.1 S.2.1 S.2.2.1 S.2.2.2.1 (shv e i j).f0 (shv e i j).f1 (shv e i j).f2 (shv e i j).f3 = some p := ⟨_, tpI ⟨S.1, S.2.1, S.2.2.1, S.2.2.2.1⟩ (shv e i j)⟩
    obtain ⟨p, hp⟩ := t
    simp only [hp, Option.bind_some, if_neg h6]
    exact t_j4 h1
theorem t_j2 {l1 : List Int} (h1 : Bytes l1) (c e : S25) (i j : Int) : Ev (fun k => laws_FnCirclesTouch.j2 k l1 i j (shR e i j).2.2.2.2 false c.f0 c.f1 c.f2 c.f3 e.f0 e.f1 e.f2 e.f3 (shR e i j).1 (shR e i j).2.1 (shR e i j).2.2.1 (shR e i j).2.2.2.1) true := by
  refine Ev.step (fun _ => laws_FnCirclesTouch.j2.eq_2 ..) ?_
  simp only [Bool.false_eq_true, if_false]
  by_cases h : (shR e i j).2.2.2.2 = true
  · obtain ⟨hh, ee⟩ := shR_true h
    obtain ⟨he, hi, hj, hs⟩ := hh
    obtain ⟨wi, ni⟩ := inB_neg hi
    obtain ⟨wj, nj⟩ := inB_neg hj
    have hb : shR (shv e i j) (-i) (-j) = (e.f0, e.f1, e.f2, e.f3, true) := by
      have e2 := sh_back e i j
      rw [shR_of hs ni nj (by rw [e2]; exact he), e2]
    rw [ee]
    simp only [if_true, wi, wj, shI, isI, hb, hs, Option.bind_some, beq_self_eq_true, Bool.not_true, Bool.or_self]
    exact t_j3 h1 c e i j ⟨he, hi, hj, hs⟩
  · simp only [if_neg h]
    exact t_j4 h1
theorem t_j1 {l1 : List Int} (h1 : Bytes l1) (c : S25) : Ev (fun k => laws_FnCirclesTouch.j1 k l1 c.f0 c.f1 c.f2 c.f3) true := by
  obtain ⟨e, i, j, hd⟩ := drawS h1
  refine Ev.step (fun _ => laws_FnCirclesTouch.j1.eq_2 ..) ?_
  refine Ev.bind hd ?_
  simp only [shI, Option.bind_some]
  refine Ev.bind (shSp e i j) ?_
  simp only [bne_self_eq_false, Bool.false_eq_true, if_false, beq_self_eq_true, Bool.not_true, Bool.or_self]
  exact t_j2 h1 c e i j
theorem t_j0 {l1 : List Int} (h1 : Bytes l1) (c d : S25) : Ev (fun k => laws_FnCirclesTouch.j0 k l1 (tpR c d).1 (tpR c d).2 false c.f0 c.f1 c.f2 c.f3 d.f0 d.f1 d.f2 d.f3) true := by
  refine Ev.step (fun _ => laws_FnCirclesTouch.j0.eq_2 ..) ?_
  simp only [Bool.false_eq_true, if_false]
  by_cases h : isC c = true ∧ isC d = true
  · have e0 : tpR c d = (twi c d, true) := if_pos h
    have e1 : tpR c c = (2, true) := by
      unfold tpR
      rw [if_pos ⟨h.1, h.1⟩, tw_self, isC_q h.1]
      rfl
    have e2 : tpR (trn c) (trn d) = (twi c d, true) := by
      unfold tpR
      rw [if_pos ⟨isC_trn h.1, isC_trn h.2⟩, twi_trn]
    have e3 : tpR (flp c) (flp d) = (twi c d, true) := by
      unfold tpR
      rw [if_pos ⟨isC_flp h.1, isC_flp h.2⟩, twi_flp]
    rw [e0]
    simp only [if_true, tpI, trnI h.1, trnI h.2, flpI h.1, flpI h.2, e1, e2, e3, Option.bind_some]
    exact t_j1 h1 c
  · have e0 : tpR c d = (0, false) := if_neg h
    rw [e0]
    simp only [Bool.false_eq_true, if_false]
    exact t_j1 h1 c
theorem u8_bytes {l : List Int} (h : ∀ x ∈ l, (Lit.int .u8 x).wf = true) : Bytes l := by
  intro x hx
  have := h x hx
  simp only [Lit.wf, Bool.and_eq_true, decide_eq_true_eq] at this
  exact ⟨this.1, this.2⟩
theorem FnCirclesTouch : laws_FnCirclesTouch.Pure := by
  intro l0 l1 _ _ hw0 _ _ hw1
  have h0 := u8_bytes hw0
  have h1 := u8_bytes hw1
  suffices h : Ev (fun k => laws_FnCirclesTouch.f k l0 l1) true by
    obtain ⟨K, h⟩ := h
    exact ⟨K, h K (Nat.le_refl _)⟩
  have hbig : ∃ t, laws_big.f l0 l1 = some t := by
    unfold laws_big.f
    by_cases hb : (l0.length : Int) > 1048576
    · rw [if_pos hb]; exact ⟨_, rfl⟩
    · rw [if_neg hb]; exact ⟨_, rfl⟩
  obtain ⟨t, hbig⟩ := hbig
  unfold laws_FnCirclesTouch.f
  simp only [hbig, Option.bind_some]
  by_cases ht : t = true
  · simp only [if_pos ht]
    exact Ev.now _
  · simp only [if_neg ht]
    obtain ⟨c, d, hd⟩ := drawT h0
    refine Ev.bind hd ?_
    simp only [tpI, dtI, Option.bind_some]
    refine Ev.bind (tpS c d) (Ev.bind (dtS c d) ?_)
    simp only [bne_self_eq_false, Bool.false_eq_true, if_false, if_true]
    have e := t_j0 h1 c d
    by_cases h : isC c = true ∧ isC d = true
    · have e0 : tpR c d = (twi c d, true) := if_pos h
      have e1 : dtR c d = ((twi c d == (-2)), true) := if_pos h
      rw [e0] at e
      simp only [e0, e1, bne_self_eq_false, Bool.false_eq_true, if_false, if_true]
      exact e
    · have e0 : tpR c d = (0, false) := if_neg h
      have e1 : dtR c d = (false, false) := if_neg h
      rw [e0] at e
      simp only [e0, e1, bne_self_eq_false, Bool.false_eq_true, if_false]
      exact e

end Go.Proofs.Ytkllcinoodfffaa.Pure
