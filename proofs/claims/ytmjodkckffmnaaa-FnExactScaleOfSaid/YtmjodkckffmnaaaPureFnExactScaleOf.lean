/- For every input the statement FnExactScaleOf holds of what the program and the reference compute, told as plain Lean functions; there is no further condition. -/
import Derived.Test.YtmjodkckffmnaaaP2
import Derived.Test.YtmjodkckffmnaaaP4
import Derived.Test.YtmjodkckffmnaaaP5
import Derived.Test.YtmjodkckffmnaaaQd
import Derived.Test.YtmjodkckffmnaaaCm
import Derived.Test.YtmjodkckffmnaaaGz
namespace Go.Proofs.Ytmjodkckffmnaaa.Pure
open Go.RowKit Go.Proofs.Ytmjodkckffmnaaa.P Go.Proofs.YtmjodkckffmnaaaW.PrintWords Go.Proofs.YtmjodkckffmnaaaW.PrintLast Go.Proofs.YtmjodkckffmnaaaW.PrintMore

theorem scale_ev (a b c d : Int) (ha : bq a) (hb : bq b) (hc : bq c) (hd : bq d) : ∃ g, Ev (fun k => spec_apScale.f k [a, b, c, d]) g ∧ Ev (fun k => impl_scale.f k [a, b, c, d]) g := by
  unfold bq at ha hb hc hd
  have le : ∀ x y : Nat, x ≤ 100000 → y ≤ 100000 → Nat.gcd x y ≤ 100000 := fun x y hx hy => by
    rcases Nat.eq_zero_or_pos y with h | h
    · subst h; rw [Nat.gcd_zero_right]; exact hx
    · exact Nat.le_trans (Nat.gcd_le_right _ h) hy
  have g1 := le a.natAbs b.natAbs (by omega) (by omega)
  have g2 := le c.natAbs d.natAbs (by omega) (by omega)
  refine ⟨((Nat.gcd (Nat.gcd a.natAbs b.natAbs) (Nat.gcd c.natAbs d.natAbs) : Nat) : Int), ?_, ?_⟩
  · unfold spec_apScale.f
    simp only [len4, r40, r41, r42, r43, if_pos i04, if_pos i14, if_pos i24, if_pos i34]
    refine Ev.bind (foGcdZ_ev _ a b rfl (by omega) (by omega)) ?_
    refine Ev.bind (foGcdZ_ev _ c d rfl (by omega) (by omega)) ?_
    refine Ev.bind (foGcdZ_ev _ ((Nat.gcd a.natAbs b.natAbs : Nat) : Int) ((Nat.gcd c.natAbs d.natAbs : Nat) : Int) rfl (by omega) (by omega)) ?_
    exact Ev.now _
  · have e1 := divisorZ_ev _ 0 a rfl (by omega) (by omega)
    have e2 := divisorZ_ev _ ((Nat.gcd 0 a.natAbs : Nat) : Int) b rfl (by rw [Nat.gcd_zero_left]; omega) (by omega)
    have e3 := divisorZ_ev _ ((Nat.gcd a.natAbs b.natAbs : Nat) : Int) c rfl (by omega) (by omega)
    have g3 := le (Nat.gcd a.natAbs b.natAbs) c.natAbs g1 (by omega)
    have e4 := divisorZ_ev _ ((Nat.gcd (Nat.gcd a.natAbs b.natAbs) c.natAbs : Nat) : Int) d rfl (by omega) (by omega)
    simp only [Int.natAbs_zero, Nat.gcd_zero_left, Int.natAbs_natCast] at e1 e2 e3 e4
    rw [Nat.gcd_assoc (Nat.gcd a.natAbs b.natAbs) c.natAbs d.natAbs] at e4
    have key : Ev (fun k => (impl_divisor.f k 0 a).bind fun x => (impl_divisor.f k x b).bind fun y => (impl_divisor.f k y c).bind fun z => (impl_divisor.f k z d).bind fun u => some u) ((Nat.gcd (Nat.gcd a.natAbs b.natAbs) (Nat.gcd c.natAbs d.natAbs) : Nat) : Int) :=
      Ev.bind e1 (Ev.bind e2 (Ev.bind e3 (Ev.bind e4 (Ev.now _))))
    unfold impl_scale.f
    refine Ev.step (f := fun k => (impl_divisor.f k 0 a).bind fun t => impl_scale.l0 k t [a, b, c, d] 4 1) (fun k => ?_) ?_
    · simp only [impl_scale.l0, len4, r40, w01, if_pos i04, if_pos i00]
    refine Ev.bind e1 (Ev.step (f := fun k => (impl_divisor.f k ((a.natAbs : Nat) : Int) b).bind fun t => impl_scale.l0 k t [a, b, c, d] 4 2) (fun k => ?_) ?_)
    · simp only [impl_scale.l0, len4, r41, w12, if_pos i14, if_pos i01]
    refine Ev.bind e2 (Ev.step (f := fun k => (impl_divisor.f k ((Nat.gcd a.natAbs b.natAbs : Nat) : Int) c).bind fun t => impl_scale.l0 k t [a, b, c, d] 4 3) (fun k => ?_) ?_)
    · simp only [impl_scale.l0, len4, r42, w23, if_pos i24, if_pos i02]
    refine Ev.bind e3 (Ev.step (f := fun k => (impl_divisor.f k ((Nat.gcd (Nat.gcd a.natAbs b.natAbs) c.natAbs : Nat) : Int) d).bind fun t => impl_scale.l0 k t [a, b, c, d] 4 4) (fun k => ?_) ?_)
    · simp only [impl_scale.l0, len4, r43, w34, if_pos i34, if_pos i03]
    refine Ev.bind e4 (Ev.step (f := fun _ => some ((Nat.gcd (Nat.gcd a.natAbs b.natAbs) (Nat.gcd c.natAbs d.natAbs) : Nat) : Int)) (fun k => ?_) (Ev.now _))
    simp only [impl_scale.l0, if_neg i44]
theorem FnExactScaleOf : laws_FnExactScaleOf.Pure := by
  intro l hm hc hw
  have hml : l.length ≤ 35184372088832 := by omega
  suffices h : Ev (fun k => laws_FnExactScaleOf.f k l) true by
    obtain ⟨K, h⟩ := h
    exact ⟨K, h K (Nat.le_refl _)⟩
  unfold laws_FnExactScaleOf.f
  by_cases hb : (l.length : Int) > 1048576
  · simp only [if_pos hb]
    exact Ev.now _
  · simp only [if_neg hb]
    have hto := toIntS_ev l hml
    have hu := isQuad_ev l
    have ht := apGood_ev l (by omega)
    obtain ⟨p, hp, hq⟩ : ∃ p, Ev (fun k => spec_ScaleOf.f k l) p ∧ Ev (fun k => impl_ScaleOf.f k l) p := by
      by_cases hu' : quadB l = true
      · obtain ⟨a, b, c, d, rfl, h0, h1, h2, h3, _⟩ := quadB_iff.1 hu'
        rw [hu'] at ht hu
        obtain ⟨g, e1, e2⟩ := scale_ev a b c d h0 h1 h2 h3
        refine ⟨(g, true), ?_, ?_⟩
        · unfold spec_ScaleOf.f
          refine Ev.bind ht ?_
          simp only [if_true]
          exact Ev.bind e1 (Ev.now _)
        · unfold impl_ScaleOf.f
          refine Ev.bind hu ?_
          simp only [if_true]
          exact Ev.bind e2 (Ev.now _)
      · refine ⟨(0, false), ?_, ?_⟩
        · unfold spec_ScaleOf.f
          refine Ev.bind ht ?_
          simp only [if_neg hu']
          exact Ev.now _
        · unfold impl_ScaleOf.f
          refine Ev.bind hu ?_
          simp only [if_neg hu']
          exact Ev.now _
    refine Ev.bind hto (Ev.bind hp (Ev.bind hto (Ev.bind hq ?_)))
    simp only [if_true, bne_self_eq_false]
    obtain ⟨K, hK⟩ := Ev.bind (f := fun k t => (laws_eqIntS.f k l t).bind fun t183 => (if t183 = true then (some true) else (some false))) hto (Ev.bind (f := fun k t => if t = true then (some true) else (some false)) (eqIntS_ev l (by omega)) (Ev.now _))
    refine Ev.from (K + 1) (fun k hk => ?_)
    obtain ⟨k, rfl⟩ : ∃ m, k = m + 1 := ⟨k - 1, by omega⟩
    have := hK k (by omega)
    simpa [laws_FnExactScaleOf.j0] using this

end Go.Proofs.Ytmjodkckffmnaaa.Pure
