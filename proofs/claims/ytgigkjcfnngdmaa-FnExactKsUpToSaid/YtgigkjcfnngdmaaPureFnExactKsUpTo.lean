/- For every input the statement FnExactKsUpTo holds of what the program and the reference compute, told as plain Lean functions; there is no further condition. -/
import Derived.Test.YtgigkjcfnngdmaaP19
import Derived.Test.YtgigkjcfnngdmaaP20
import Derived.Test.YtgigkjcfnngdmaaLeFnExactKsUpTo
namespace Go.Proofs.Ytgigkjcfnngdmaa.Pure
open Go.RowKit Go.Proofs.Ytgigkjcfnngdmaa.P Go.Proofs.YtgigkjcfnngdmaaW.PrintWords Go.Proofs.YtgigkjcfnngdmaaW.PrintLast Go.Proofs.YtgigkjcfnngdmaaW.PrintMore

theorem FnExactKsUpTo : laws_FnExactKsUpTo.Pure := by
  intro c most _ _
  suffices h : Ev (fun k => laws_FnExactKsUpTo.f k c most) true by
    obtain ⟨K, h⟩ := h
    exact ⟨K, h K (Nat.le_refl _)⟩
  unfold laws_FnExactKsUpTo.f
  have hlen := ksR_len c most
  have hp := ksR_ev c most
  have hq : impl_KsUpTo.f c most = some (ksR c most) := rfl
  obtain ⟨⟨p, b⟩, hpb⟩ : ∃ q, q = ksR c most := ⟨_, rfl⟩
  rw [← hpb] at hp hq hlen
  dsimp only at hlen
  have hep := eqIntS_ev p (by omega)
  have hmp := markIntS_ev p (by omega)
  have hhp := heldIntS_ev p.length (by omega)
  have n2 : ¬ (1 + (p.length : Int) < 0) := by omega
  repeat (first
    | with_reducible exact Ev.now _
    | with_reducible refine Ev.bind hp ?_
    | with_reducible refine Ev.bind hep ?_
    | with_reducible refine Ev.bind hmp ?_
    | with_reducible refine Ev.bind hhp ?_
    | with_reducible refine Ev.step (fun _ => laws_FnExactKsUpTo.j0.eq_2 ..) ?_
    | with_reducible refine Ev.step (fun _ => laws_FnExactKsUpTo.j1.eq_2 ..) ?_
    | simp only [hq, Option.bind_some, bne_self_eq_false, Bool.false_eq_true, if_true, if_false, eq_self, n2])

end Go.Proofs.Ytgigkjcfnngdmaa.Pure
