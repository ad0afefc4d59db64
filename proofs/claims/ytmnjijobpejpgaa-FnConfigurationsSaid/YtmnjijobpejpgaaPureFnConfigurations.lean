/- For every input the statement FnConfigurations holds of what the program and the reference compute, told as plain Lean functions; there is no further condition. -/
import Derived.Test.YtmnjijobpejpgaaP1
import Derived.Test.YtmnjijobpejpgaaP2
import Derived.Test.YtmnjijobpejpgaaP3
import Derived.Test.YtmnjijobpejpgaaP19
import Derived.Test.YtmnjijobpejpgaaP43
import Derived.Test.YtmnjijobpejpgaaP44
import Derived.Test.YtmnjijobpejpgaaLeFnConfigurations
import Derived.Laws.BitsAllLaws
namespace Go.Proofs.Ytmnjijobpejpgaa.Pure
open Go.RowKit Go.Proofs.Ytmnjijobpejpgaa.P Go.Proofs.YtmnjijobpejpgaaW.PrintWords Go.Proofs.YtmnjijobpejpgaaW.PrintLast Go.Proofs.YtmnjijobpejpgaaW.PrintMore

theorem start0 : cfgB [⟨1, (-1), 0, 0⟩, ⟨0, 2, 1, 0⟩, ⟨0, 2, (-1), 0⟩, ⟨1, 3, 0, 2⟩] = true :=
  cfgB_iff.2 ⟨_, _, _, _, rfl, ⟨(isC_iff _).2 (by simp [bnd]), (isC_iff _).2 (by simp [bnd]), (isC_iff _).2 (by simp [bnd]), (isC_iff _).2 (by simp [bnd])⟩, by simp [twi], by simp [twi], by simp [twi], by simp [twi], by simp [twi], by simp [twi]⟩
theorem start1 : cfgB [⟨4, 0, 0, 1⟩, ⟨0, 0, 0, (-1)⟩, ⟨0, 1, 0, 1⟩, ⟨4, 1, 2, 1⟩] = true :=
  cfgB_iff.2 ⟨_, _, _, _, rfl, ⟨(isC_iff _).2 (by simp [bnd]), (isC_iff _).2 (by simp [bnd]), (isC_iff _).2 (by simp [bnd]), (isC_iff _).2 (by simp [bnd])⟩, by simp [twi], by simp [twi], by simp [twi], by simp [twi], by simp [twi], by simp [twi]⟩
theorem cfg_j5 {l1 : List Int} (h1 : Bytes l1) : Ev (fun k => laws_FnConfigurations.j5 k l1) true := by
  obtain ⟨v, hv⟩ := draw3 h1
  obtain ⟨st, b, hst, hb, hl⟩ : ∃ st b, spec_StartConfig.f v = some (st, b) ∧ (b = true → cfgB st = true) ∧ st.length ≤ 4 := by
    unfold spec_StartConfig.f
    by_cases c0 : v = 0
    · rw [if_pos c0]; exact ⟨_, _, rfl, fun _ => start0, by simp⟩
    · rw [if_neg c0]
      by_cases c1 : v = 1
      · rw [if_pos c1]; exact ⟨_, _, rfl, fun _ => start1, by simp⟩
      · rw [if_neg c1]; exact ⟨_, _, rfl, fun h => absurd h (by decide), by simp⟩
  have hi : impl_StartConfig.f v = some (st, b) := hst
  have hd := dCircles_ev st (by omega)
  refine Ev.step (fun _ => laws_FnConfigurations.j5.eq_2 ..) ?_
  simp only [hv, hi, hst, Option.bind_some, bne_self_eq_false, Bool.false_eq_true, if_false]
  refine Ev.bind hd ?_
  refine Ev.step (fun _ => laws_FnConfigurations.j6.eq_2 ..) ?_
  simp only [Bool.not_true, Bool.false_eq_true, if_false]
  by_cases hb' : b = true
  · simp only [if_pos hb']
    refine Ev.bind (icI st) ?_
    simp only [ic_of (hb hb'), if_true]
    exact Ev.now _
  · simp only [if_neg hb']
    exact Ev.now _
theorem folR_true {a : List S38} {w : List Int} (h : (folR a w).2 = true) : cfgB a = true ∧ w.all (inB 0 3) = true ∧ folR a w = runC a w := by
  unfold folR at h ⊢
  split at h
  · rename_i hc
    exact ⟨hc.1, hc.2.2, if_pos hc⟩
  · exact absurd h (by decide)
theorem cfg_j4 {l1 : List Int} (h1 : Bytes l1) (a : List S38) (w : List Int) (h : (folR a w).2 = true) : Ev (fun k => laws_FnConfigurations.j4 k l1 a w (folR a w).1 false) true := by
  obtain ⟨hc, hw, he⟩ := folR_true h
  rw [he] at h ⊢
  have hb := run_cfg w a hc hw h
  obtain ⟨q, hq, hqq⟩ := followI (curR a).1 w
  refine Ev.step (fun _ => laws_FnConfigurations.j4.eq_2 ..) ?_
  simp only [Bool.false_eq_true, if_false]
  refine Ev.bind (curI a) (Ev.bind (curI _) (Ev.bind hq ?_))
  simp only [cur_of hc, cur_of hb, if_true]
  by_cases hq2 : q.2 = true
  · obtain ⟨e, _⟩ := hqq hq2
    rw [cur_of hc] at e
    have e2 := run_curv w a hc hw h (by rw [← e]; exact hq2)
    rw [← e] at e2
    simp only [if_pos hq2, e2]
    refine Ev.bind (dSame_ev _ (by rw [List.length_map, cfg_len hb]; omega)) ?_
    simp only [if_true]
    exact cfg_j5 h1
  · simp only [if_neg hq2]
    exact cfg_j5 h1
theorem cfg_j3 {l1 : List Int} (h1 : Bytes l1) (a : List S38) (w : List Int) : Ev (fun k => laws_FnConfigurations.j3 k l1 a w (folR a w).1 (folR a w).2 false) true := by
  refine Ev.step (fun _ => laws_FnConfigurations.j3.eq_2 ..) ?_
  simp only [Bool.false_eq_true, if_false]
  by_cases h : (folR a w).2 = true
  · have hb : cfgB (folR a w).1 = true := by
      obtain ⟨hc, hw, he⟩ := folR_true h
      rw [he] at h ⊢
      exact run_cfg w a hc hw h
    simp only [if_pos h]
    refine Ev.bind (icI _) ?_
    simp only [ic_of hb, if_true, Bool.not_true]
    exact cfg_j4 h1 a w h
  · simp only [if_neg h]
    exact cfg_j5 h1
theorem cfg_j2 {l1 : List Int} (h1 : Bytes l1) : Ev (fun k => laws_FnConfigurations.j2 k l1) true := by
  obtain ⟨a, w, hd, hal, hwl⟩ := draw2 h1
  refine Ev.step (fun _ => laws_FnConfigurations.j2.eq_2 ..) ?_
  refine Ev.bind hd (Ev.bind (folI_ev a w) (Ev.bind (folS_ev a w (by omega)) ?_))
  simp only [bne_self_eq_false, Bool.false_eq_true, if_false]
  refine Ev.bind (dCircles_ev _ (by have := folR_len a w; omega)) ?_
  simp only [Bool.not_true]
  exact cfg_j3 h1 a w
theorem cfg_j1 {l1 : List Int} (h1 : Bytes l1) (l : List S38) (i : Int) : Ev (fun k => laws_FnConfigurations.j1 k l1 l i (folR l [i]).1 (folR l [i]).2 (curR l).1 false) true := by
  refine Ev.step (fun _ => laws_FnConfigurations.j1.eq_2 ..) ?_
  simp only [Bool.false_eq_true, if_false]
  by_cases h : cfgB l = true ∧ inB 0 3 i = true ∧ inC (nc l i.toNat) = true
  · rw [fol1, if_pos h]
    obtain ⟨hc, hi, hn⟩ := h
    have hi' := inB_iff.1 hi
    obtain ⟨j, rfl⟩ : ∃ j : Nat, i = j := ⟨i.toNat, by omega⟩
    rw [Int.toNat_natCast] at hn ⊢
    have hb := swc_back hc (by omega) hn
    have h2 := (cfg_swc hc (show j < 4 by omega)).2 hn
    obtain ⟨q, hq, hqq⟩ := swapAtI (curR l).1 (j : Int)
    simp only [if_true]
    refine Ev.bind (icI _) (Ev.bind (swapI_ev _ _) (Ev.bind (curI _) (Ev.bind hq ?_)))
    simp only [ic_of h2, hb, cur_of h2, if_true]
    refine Ev.bind (dCircles_ev l (by rw [cfg_len hc]; omega)) ?_
    simp only [if_true]
    by_cases hq2 : q.2 = true
    · have e : q.1 = (swc l j).map S38.f1 := by rw [hqq hq2, cur_of hc, Int.toNat_natCast, curv_swc (cfg_len hc) (by omega)]
      simp only [if_pos hq2, e]
      refine Ev.bind (dSame_ev _ (by rw [List.length_map, cfg_len h2]; omega)) ?_
      simp only [if_true]
      exact cfg_j2 h1
    · simp only [if_neg hq2]
      exact cfg_j2 h1
  · rw [fol1, if_neg h]
    simp only [Bool.false_eq_true, if_false]
    exact cfg_j2 h1
theorem cfg_j0 {l1 : List Int} (h1 : Bytes l1) (l : List S38) (i : Int) : Ev (fun k => laws_FnConfigurations.j0 k l1 l i (folR l [i]).1 (folR l [i]).2 (icR l).1 false) true := by
  refine Ev.step (fun _ => laws_FnConfigurations.j0.eq_2 ..) ?_
  simp only [Bool.false_eq_true, if_false]
  refine Ev.bind (curI l) (Ev.bind (curS l) ?_)
  simp only [bne_self_eq_false, Bool.false_eq_true, if_false]
  refine Ev.bind (dSame_ev _ (by have := cur_len l; omega)) ?_
  simp only [if_true, ic_cur, bne_self_eq_false]
  exact cfg_j1 h1 l i
theorem u8_bytes {l : List Int} (h : ∀ x ∈ l, (Lit.int .u8 x).wf = true) : Bytes l := by
  intro x hx
  have := h x hx
  simp only [Lit.wf, Bool.and_eq_true, decide_eq_true_eq] at this
  exact ⟨this.1, this.2⟩
theorem FnConfigurations : laws_FnConfigurations.Pure := by
  intro l0 l1 _ _ hw0 _ _ hw1
  have h0 := u8_bytes hw0
  have h1 := u8_bytes hw1
  suffices h : Ev (fun k => laws_FnConfigurations.f k l0 l1) true by
    obtain ⟨K, h⟩ := h
    exact ⟨K, h K (Nat.le_refl _)⟩
  have hbig : ∃ t, laws_big.f l0 l1 = some t := by
    unfold laws_big.f
    by_cases hb : (l0.length : Int) > 1048576
    · rw [if_pos hb]; exact ⟨_, rfl⟩
    · rw [if_neg hb]; exact ⟨_, rfl⟩
  obtain ⟨t, hbig⟩ := hbig
  unfold laws_FnConfigurations.f
  simp only [hbig, Option.bind_some]
  by_cases ht : t = true
  · simp only [if_pos ht]
    exact Ev.now _
  · simp only [if_neg ht]
    obtain ⟨l, i, hd, hl⟩ := draw1 h0
    refine Ev.bind hd (Ev.bind (swapI_ev l i) (Ev.bind (swapS_ev l i) (Ev.bind (icI l) (Ev.bind (icS l) ?_))))
    simp only [bne_self_eq_false, Bool.false_eq_true, if_false]
    refine Ev.bind (dCircles_ev _ (by have := folR_len l [i]; omega)) ?_
    simp only [if_true]
    by_cases hs : (folR l [i]).2 = true
    · have hc : cfgB l = true := by
        rw [fol1] at hs
        split at hs
        · rename_i h; exact h.1
        · exact absurd hs (by decide)
      simp only [if_pos hs]
      have e := cfg_j0 h1 l i
      rw [ic_of hc] at e ⊢
      rw [hs] at e ⊢
      exact e
    · simp only [if_neg hs]
      exact cfg_j0 h1 l i

end Go.Proofs.Ytmnjijobpejpgaa.Pure
