/- For every input the statement FnExactFollowSwaps holds of what the program and the reference compute, told as plain Lean functions; there is no further condition. -/
import Derived.Test.YtmjodkckffmnaaaP1
import Derived.Test.YtmjodkckffmnaaaP3
import Derived.Test.YtmjodkckffmnaaaP4
import Derived.Test.YtmjodkckffmnaaaP5
import Derived.Test.YtmjodkckffmnaaaP6
import Derived.Test.YtmjodkckffmnaaaP7
import Derived.Test.YtmjodkckffmnaaaP9
import Derived.Test.YtmjodkckffmnaaaP10
import Derived.Test.YtmjodkckffmnaaaLeFnExactFollowSwaps
namespace Go.Proofs.Ytmjodkckffmnaaa.Pure
open Go.RowKit Go.Proofs.Ytmjodkckffmnaaa.P Go.Proofs.YtmjodkckffmnaaaW.PrintWords Go.Proofs.YtmjodkckffmnaaaW.PrintLast Go.Proofs.YtmjodkckffmnaaaW.PrintMore

def runw (q : List Int) : List Int → List Int × Bool
  | [] => (q, true)
  | i :: w => if quadB (swl q i.toNat) = true then runw (swl q i.toNat) w else ([], false)
theorem runw_len (w : List Int) : ∀ q : List Int, q.length ≤ 4 → (runw q w).1.length ≤ 4 := by
  induction w with
  | nil => intro q h; exact h
  | cons i w ih =>
    intro q h
    simp only [runw]
    split
    · exact ih _ (by rw [swl_length]; exact h)
    · simp
theorem in03 {w : List Int} (h : w.all (inB 0 3) = true) {j : Nat} (hj : j < w.length) : 0 ≤ w[j] ∧ w[j] ≤ 3 := by
  have := List.all_eq_true.1 h w[j] (List.getElem_mem hj)
  exact inB_iff.1 this
theorem followS_l (w : List Int) (hw : w.all (inB 0 3) = true) (hl : w.length ≤ 1000) (d : Nat) : ∀ (j : Nat) (q : List Int), j + d = w.length → quadB q = true → Ev (fun k => spec_FollowSwaps.l0 k q w (w.length : Int) (j : Int)) (runw q (w.drop j)) := by
  induction d with
  | zero =>
    intro j q hj hq
    rw [List.drop_of_length_le (by omega)]
    refine Ev.step (f := fun _ => some (q, true)) (fun k => ?_) (Ev.now _)
    simp only [spec_FollowSwaps.l0]
    rw [if_neg (by omega)]
  | succ d ih =>
    intro j q hj hq
    have hjl : j < w.length := by omega
    have hb := in03 hw hjl
    obtain ⟨i, hi⟩ : ∃ i : Nat, w[j] = i := ⟨w[j].toNat, by omega⟩
    have hi4 : i < 4 := by omega
    have hg := apGood_ev (swl q i) (by
      rw [swl_length]
      obtain ⟨a, b, c, d, rfl, _⟩ := quadB_iff.1 hq
      simp)
    rw [List.drop_eq_getElem_cons hjl, hi]
    simp only [runw, Int.toNat_natCast]
    refine Ev.step (f := fun k => (spec_apGood.f k (swl q i)).bind fun t => if t = true then spec_FollowSwaps.l0 k (swl q i) w (w.length : Int) ((j + 1 : Nat) : Int) else some ([], false)) (fun k => ?_) ?_
    · simp only [spec_FollowSwaps.l0]
      rw [if_pos (by omega), if_pos (by omega), if_pos (by omega), rdi_at hjl, hi, apSwap_f hq hi4, wrap_id (by omega) (by omega)]
      simp only [Option.bind_some]
      rw [show ((j : Int) + 1) = ((j + 1 : Nat) : Int) by omega]
    · refine Ev.bind hg ?_
      cases hqq : quadB (swl q i) with
      | true => simp only [if_true]; exact ih (j + 1) (swl q i) (by omega) hqq
      | false => simp only [Bool.false_eq_true, if_false]; exact Ev.now _
theorem followI_l (w : List Int) (hw : w.all (inB 0 3) = true) (hl : w.length ≤ 1000) (d : Nat) : ∀ (j : Nat) (q : List Int), j + d = w.length → quadB q = true → Ev (fun k => impl_FollowSwaps.l0 k q w (w.length : Int) (j : Int)) (runw q (w.drop j)) := by
  induction d with
  | zero =>
    intro j q hj hq
    rw [List.drop_of_length_le (by omega)]
    refine Ev.step (f := fun _ => some (q, true)) (fun k => ?_) (Ev.now _)
    simp only [impl_FollowSwaps.l0]
    rw [if_neg (by omega)]
  | succ d ih =>
    intro j q hj hq
    have hjl : j < w.length := by omega
    have hb := in03 hw hjl
    obtain ⟨i, hi⟩ : ∃ i : Nat, w[j] = i := ⟨w[j].toNat, by omega⟩
    have hi4 : i < 4 := by omega
    have hg := swap_ev hq hi4
    rw [List.drop_eq_getElem_cons hjl, hi]
    simp only [runw, Int.toNat_natCast]
    refine Ev.step (f := fun k => (impl_swap.f k q (i : Int)).bind fun bt => if bt.2 = true then impl_FollowSwaps.l0 k bt.1 w (w.length : Int) ((j + 1 : Nat) : Int) else some ([], false)) (fun k => ?_) ?_
    · simp only [impl_FollowSwaps.l0]
      rw [if_pos (by omega), if_pos (by omega), if_pos (by omega), rdi_at hjl, hi, wrap_id (by omega) (by omega)]
      rw [show ((j : Int) + 1) = ((j + 1 : Nat) : Int) by omega]
    · cases hqq : quadB (swl q i) with
      | true =>
        rw [hqq] at hg
        refine Ev.bind hg ?_
        simp only [if_true]
        exact ih (j + 1) (swl q i) (by omega) hqq
      | false =>
        rw [hqq] at hg
        refine Ev.bind hg ?_
        simp only [Bool.false_eq_true, if_false]
        exact Ev.now _
theorem follow_both (l w : List Int) (hl : (l.length : Int) ≤ 9223372036854775806) (hlw : (w.length : Int) ≤ 9223372036854775806) : ∃ p b, Ev (fun k => spec_FollowSwaps.f k l w) (p, b) ∧ Ev (fun k => impl_FollowSwaps.f k l w) (p, b) ∧ p.length ≤ 4 := by
  have hu := isQuad_ev l
  have ht := apGood_ev l hl
  have js : Ev (fun k => spec_FollowSwaps.j0 k l w true) (([] : List Int), false) := Ev.step (fun _ => spec_FollowSwaps.j0.eq_2 ..) (by simp only [if_true]; exact Ev.now _)
  have ji : Ev (fun k => impl_FollowSwaps.j0 k l w true) (([] : List Int), false) := Ev.step (fun _ => impl_FollowSwaps.j0.eq_2 ..) (by simp only [if_true]; exact Ev.now _)
  unfold spec_FollowSwaps.f impl_FollowSwaps.f impl_allWithin.f
  by_cases hq : quadB l = true
  · rw [hq] at hu ht
    have h4 : l.length = 4 := by
      obtain ⟨a, b, c, d, rfl, _⟩ := quadB_iff.1 hq
      rfl
    by_cases hw : (w.length : Int) > 200
    · refine ⟨[], false, Ev.bind ht ?_, Ev.bind hu ?_, by simp⟩
      · simp only [if_true, if_pos hw]; exact js
      · simp only [if_true, if_pos hw]; exact ji
    · have ha := l1All_ev 0 3 w hlw
      cases hall : w.all (inB 0 3) with
      | false =>
        rw [hall] at ha
        refine ⟨[], false, Ev.bind ht ?_, Ev.bind hu ?_, by simp⟩
        · simp only [if_true, if_neg hw]
          exact Ev.bind ha js
        · simp only [if_true, if_neg hw, hall, Option.bind_some, Bool.not_false]
          exact ji
      | true =>
        rw [hall] at ha
        have es := followS_l w hall (by omega) w.length 0 l (by omega) hq
        have ei := followI_l w hall (by omega) w.length 0 l (by omega) hq
        rw [List.drop_zero] at es ei
        refine ⟨(runw l w).1, (runw l w).2, Ev.bind ht ?_, Ev.bind hu ?_, runw_len w l (by omega)⟩
        · simp only [if_true, if_neg hw]
          refine Ev.bind ha ?_
          refine Ev.step (fun _ => spec_FollowSwaps.j0.eq_2 ..) ?_
          unfold spec_l1Own.f
          simp only [Bool.not_true, Bool.false_eq_true, if_false, Option.bind_some, List.length_nil, List.nil_append]
          rw [if_pos (by omega)]
          simp only [Option.bind_some]
          exact es
        · simp only [if_true, if_neg hw, hall, Option.bind_some]
          refine Ev.step (fun _ => impl_FollowSwaps.j0.eq_2 ..) ?_
          unfold slices_Clone_int_int_80.f
          simp only [Bool.not_true, Bool.false_eq_true, if_false]
          rw [if_pos (by omega)]
          simp only [Option.bind_some]
          exact ei
  · rw [Bool.eq_false_iff.2 hq] at hu ht
    refine ⟨[], false, Ev.bind ht ?_, Ev.bind hu ?_, by simp⟩
    · simp only [Bool.false_eq_true, if_false]; exact js
    · simp only [Bool.false_eq_true, if_false]; exact ji
theorem FnExactFollowSwaps : laws_FnExactFollowSwaps.Pure := by
  intro l w hm hc hw hm2 hc2 hw2
  have hml : l.length ≤ 35184372088832 := by omega
  have hmw : w.length ≤ 35184372088832 := by omega
  suffices h : Ev (fun k => laws_FnExactFollowSwaps.f k l w) true by
    obtain ⟨K, h⟩ := h
    exact ⟨K, h K (Nat.le_refl _)⟩
  unfold laws_FnExactFollowSwaps.f
  by_cases hb : (l.length : Int) > 1048576
  · simp only [if_pos hb]
    exact Ev.now _
  · simp only [if_neg hb]
    by_cases hb2 : (w.length : Int) > 1048576
    · simp only [if_pos hb2]
      exact Ev.now _
    · simp only [if_neg hb2]
      have hto := toIntS_ev l hml
      have htw := toIntS_ev w hmw
      have hel := eqIntS_ev l (by omega)
      have hew := eqIntS_ev w (by omega)
      have hml := markIntS_ev l (by omega)
      have hmw : Ev (fun k => laws_markIntS.f k w (1 + (l.length : Int))) (1 + (l.length : Int) + w.length, mkI (1 + (l.length : Int)) w.length) := Ev.from w.length (fun k hk => markIntS_f w _ k hk (by omega) (by omega) (by omega))
      obtain ⟨p, b, hp, hq, hpl⟩ := follow_both l w (by omega) (by omega)
      have hep := eqIntS_ev p (by omega)
      have hmp := markIntS_ev p (by omega)
      have hhp := heldIntS_ev p.length (by omega)
      have n1 : ¬ (1 + (l.length : Int) + (w.length : Int) < 0) := by omega
      have n2 : ¬ (1 + (p.length : Int) < 0) := by omega
      repeat (first
        | with_reducible exact Ev.now _
        | with_reducible refine Ev.bind hto ?_
        | with_reducible refine Ev.bind htw ?_
        | with_reducible refine Ev.bind hp ?_
        | with_reducible refine Ev.bind hq ?_
        | with_reducible refine Ev.bind hel ?_
        | with_reducible refine Ev.bind hew ?_
        | with_reducible refine Ev.bind hep ?_
        | with_reducible refine Ev.bind hml ?_
        | with_reducible refine Ev.bind hmw ?_
        | with_reducible refine Ev.bind hmp ?_
        | with_reducible refine Ev.bind hhp ?_
        | with_reducible refine Ev.step (fun _ => laws_FnExactFollowSwaps.j0.eq_2 ..) ?_
        | with_reducible refine Ev.step (fun _ => laws_FnExactFollowSwaps.j1.eq_2 ..) ?_
        | with_reducible refine Ev.step (fun _ => laws_FnExactFollowSwaps.j2.eq_2 ..) ?_
        | simp only [bne_self_eq_false, Bool.false_eq_true, if_true, if_false, eq_self, n1, n2])

end Go.Proofs.Ytmjodkckffmnaaa.Pure
