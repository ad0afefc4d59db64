/- For every input the statement FnCirclesOfPackings holds of what the program and the reference compute, told as plain Lean functions; there is no further condition. -/
import Derived.Test.YtmpofeilljmmiaaGreatDoorP7
import Derived.Test.YtmpofeilljmmiaaGreatDoorP39
import Derived.Test.YtmpofeilljmmiaaGreatDoorLeFnCirclesOfPackings
import Derived.Laws.BitsAllLaws
import Derived.Lib.AtoiAllCases
import Derived.Lib.IndexBytes
namespace Go.Proofs.YtmpofeilljmmiaaGreatDoor.Pure
open Go.RowKit Go.Proofs.YtmpofeilljmmiaaGreatDoor.P Go.Proofs.YtmpofeilljmmiaaGreatDoorW.PrintWords Go.Proofs.YtmpofeilljmmiaaGreatDoorW.PrintLast Go.Proofs.YtmpofeilljmmiaaGreatDoorW.PrintMore

theorem FnCirclesOfPackings : laws_FnCirclesOfPackings.Pure := by
  intro l0 l1 _ _ hw0 _ _ hw1
  have h0 := u8_bytes hw0
  have h1 := u8_bytes hw1
  suffices h : Ev (fun k => laws_FnCirclesOfPackings.f k l0 l1) true by
    obtain ⟨K, h⟩ := h
    exact ⟨K, h K (Nat.le_refl _)⟩
  have hbig : ∃ t, laws_big.f l0 l1 = some t := by
    unfold laws_big.f
    by_cases hb : (l0.length : Int) > 1048576
    · rw [if_pos hb]; exact ⟨_, rfl⟩
    · rw [if_neg hb]; exact ⟨_, rfl⟩
  obtain ⟨t, hbig⟩ := hbig
  unfold laws_FnCirclesOfPackings.f
  rw [hbig]
  refine Ev.bind (Ev.now _) ?_
  by_cases ht : t = true
  · exact Ev.iff ht (Ev.now _)
  · refine Ev.els ht ?_
    obtain ⟨l, most, hd, hl⟩ := drawUp_ok h0
    obtain ⟨r, hS, hI, hrl, hW⟩ := up_both l most (by omega)
    refine Ev.bind hd (Ev.bind hI (Ev.bind hS (Ev.els (by simp) (Ev.bind (dCircles_ev r.1 (by omega)) ?_))))
    cases hr : r.2 with
    | true =>
      obtain ⟨c1, c2, c3, c4, c5, c6, c7⟩ := hW hr
      exact pack_ok h1 hrl c1 c2 c3 c4 c5 c6 c7
    | false =>
      exact Ev.step (fun k => laws_FnCirclesOfPackings.j0.eq_2 _ _ _ _ _ _ k) (Ev.els (by simp) (Ev.els (by simp) (j5_ok h1)))

end Go.Proofs.YtmpofeilljmmiaaGreatDoor.Pure
