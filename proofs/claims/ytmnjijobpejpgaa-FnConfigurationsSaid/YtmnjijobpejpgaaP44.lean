/- Written by a program of this session: for Go functions that a statement reaches, Lean functions with the same answers and the proofs that the calls come to them; conditions: none but the arguments' kinds. -/
import Derived.Test.YtmnjijobpejpgaaP1
import Derived.Test.YtmnjijobpejpgaaP2
import Derived.Test.YtmnjijobpejpgaaP14
import Derived.Test.YtmnjijobpejpgaaP19
import Derived.Test.YtmnjijobpejpgaaP29
import Derived.Test.YtmnjijobpejpgaaP33
import Derived.Test.YtmnjijobpejpgaaP34
import Derived.Test.YtmnjijobpejpgaaP36
import Derived.Test.YtmnjijobpejpgaaP37
import Derived.Test.YtmnjijobpejpgaaP38
import Derived.Test.YtmnjijobpejpgaaP39
import Derived.Test.YtmnjijobpejpgaaP40
import Derived.Test.YtmnjijobpejpgaaP41
import Derived.Test.YtmnjijobpejpgaaP42
import Derived.Test.YtmnjijobpejpgaaP43
namespace Go.Proofs.Ytmnjijobpejpgaa.P
open Go.RowKit Go.Proofs.YtmnjijobpejpgaaW.PrintWords Go.Proofs.YtmnjijobpejpgaaW.PrintLast Go.Proofs.YtmnjijobpejpgaaW.PrintMore
attribute [local go_sem] max2_int min2_int max_two min_two max_three min_three max_four min_four   -- for this text's walks alone
set_option linter.unusedVariables false
set_option linter.unusedSimpArgs false

/-! ### laws_FnConfigurations: function 5 -/
mutual
def laws_FnConfigurations.j0 : Nat → List Int → List (S38) → Int → List (S38) → Bool → Bool → Bool → Option (Bool)
 | 0, _, _, _, _, _, _, _ => none
 | k + 1, x1, x5, x6, x7, x8, x11, x103 => if x103 = true then (some false) else ((impl_CurvaturesOf.f k x5).bind fun bt835 => ((spec_CurvaturesOf.f k x5).bind fun bt839 => (if (bt835.2 != bt839.2) = true then (laws_FnConfigurations.j1 k x1 x5 x6 x7 x8 bt835.1 true) else ((laws_dSame.f k bt835.1 bt839.1).bind fun t843 => (if t843 = true then (laws_FnConfigurations.j1 k x1 x5 x6 x7 x8 bt835.1 (bt835.2 != x11)) else (laws_FnConfigurations.j1 k x1 x5 x6 x7 x8 bt835.1 true))))))
def laws_FnConfigurations.j1 : Nat → List Int → List (S38) → Int → List (S38) → Bool → List Int → Bool → Option (Bool)
 | 0, _, _, _, _, _, _, _ => none
 | k + 1, x1, x5, x6, x7, x8, x15, x127 => if x127 = true then (some false) else (if x8 = true then ((impl_IsConfig.f k x7).bind fun bt844 => ((impl_SwapCircle.f k x7 x6).bind fun bt846 => ((impl_CurvaturesOf.f k x7).bind fun bt850 => ((impl_SwapAt.f k x15 x6).bind fun bt854 => (if bt844.2 = true then (if bt844.1 = true then (if bt846.2 = true then ((laws_dCircles.f k bt846.1 x5).bind fun t858 => (if t858 = true then (if bt850.2 = true then (if bt854.2 = true then ((laws_dSame.f k bt854.1 bt850.1).bind fun t859 => (if t859 = true then (laws_FnConfigurations.j2 k x1) else (some false))) else (laws_FnConfigurations.j2 k x1)) else (some false)) else (some false))) else (some false)) else (some false)) else (some false)))))) else (laws_FnConfigurations.j2 k x1))
def laws_FnConfigurations.j2 : Nat → List Int → Option (Bool)
 | 0, _ => none
 | k + 1, x1 => (spec_DrawFollowCircles.f k x1).bind fun bt860 => ((impl_FollowCircles.f k bt860.1 bt860.2).bind fun bt866 => ((spec_FollowCircles.f k bt860.1 bt860.2).bind fun bt870 => (if (bt866.2 != bt870.2) = true then (laws_FnConfigurations.j3 k x1 bt860.1 bt860.2 bt866.1 bt866.2 true) else ((laws_dCircles.f k bt866.1 bt870.1).bind fun t874 => (laws_FnConfigurations.j3 k x1 bt860.1 bt860.2 bt866.1 bt866.2 (!t874))))))
def laws_FnConfigurations.j3 : Nat → List Int → List (S38) → List Int → List (S38) → Bool → Bool → Option (Bool)
 | 0, _, _, _, _, _, _ => none
 | k + 1, x1, x27, x28, x29, x30, x205 => if x205 = true then (some false) else (if x30 = true then ((impl_IsConfig.f k x29).bind fun bt875 => (if bt875.2 = true then (laws_FnConfigurations.j4 k x1 x27 x28 x29 (!bt875.1)) else (laws_FnConfigurations.j4 k x1 x27 x28 x29 true))) else (laws_FnConfigurations.j5 k x1))
def laws_FnConfigurations.j5 : Nat → List Int → Option (Bool)
 | 0, _ => none
 | k + 1, x1 => (spec_DrawStartConfig.f x1).bind fun t890 => ((impl_StartConfig.f t890).bind fun bt891 => ((spec_StartConfig.f t890).bind fun bt895 => (if (bt891.2 != bt895.2) = true then (laws_FnConfigurations.j6 k bt891.1 bt891.2 true) else ((laws_dCircles.f k bt891.1 bt895.1).bind fun t899 => (laws_FnConfigurations.j6 k bt891.1 bt891.2 (!t899))))))
def laws_FnConfigurations.j6 : Nat → List (S38) → Bool → Bool → Option (Bool)
 | 0, _, _, _ => none
 | k + 1, x42, x43, x269 => if x269 = true then (some false) else (if x43 = true then ((impl_IsConfig.f k x42).bind fun bt900 => (if bt900.2 = true then (some bt900.1) else (some false))) else (some true))
def laws_FnConfigurations.j4 : Nat → List Int → List (S38) → List Int → List (S38) → Bool → Option (Bool)
 | 0, _, _, _, _, _ => none
 | k + 1, x1, x27, x28, x29, x217 => if x217 = true then (some false) else ((impl_CurvaturesOf.f k x27).bind fun bt877 => ((impl_CurvaturesOf.f k x29).bind fun bt881 => ((impl_FollowSwaps.f k bt877.1 x28).bind fun bt885 => (if bt877.2 = true then (if bt881.2 = true then (if bt885.2 = true then ((laws_dSame.f k bt885.1 bt881.1).bind fun t889 => (if t889 = true then (laws_FnConfigurations.j5 k x1) else (some false))) else (laws_FnConfigurations.j5 k x1)) else (some false)) else (some false)))))
end
def laws_FnConfigurations.f (k : Nat) (l0 : List Int) (l1 : List Int) : Option (Bool) := (laws_big.f l0 l1).bind fun t817 => (if t817 = true then (some true) else ((spec_DrawSwapCircle.f k l0).bind fun bt818 => ((impl_SwapCircle.f k bt818.1 bt818.2).bind fun bt822 => ((spec_SwapCircle.f k bt818.1 bt818.2).bind fun bt826 => ((impl_IsConfig.f k bt818.1).bind fun bt830 => ((spec_IsConfig.f k bt818.1).bind fun bt832 => (if (bt822.2 != bt826.2) = true then (laws_FnConfigurations.j0 k l1 bt818.1 bt818.2 bt822.1 bt822.2 bt830.1 true) else ((laws_dCircles.f k bt822.1 bt826.1).bind fun t834 => (if t834 = true then (if (bt830.2 != bt832.2) = true then (laws_FnConfigurations.j0 k l1 bt818.1 bt818.2 bt822.1 bt822.2 bt830.1 true) else (if (bt830.1 != bt832.1) = true then (laws_FnConfigurations.j0 k l1 bt818.1 bt818.2 bt822.1 bt822.2 bt830.1 true) else (if bt822.2 = true then (laws_FnConfigurations.j0 k l1 bt818.1 bt818.2 bt822.1 bt822.2 bt830.1 (!bt830.1)) else (laws_FnConfigurations.j0 k l1 bt818.1 bt818.2 bt822.1 bt822.2 bt830.1 false)))) else (laws_FnConfigurations.j0 k l1 bt818.1 bt818.2 bt822.1 bt822.2 bt830.1 true))))))))))
theorem laws_FnConfigurations.mono_l : ∀ k, (∀ y0 y1 y2 y3 y4 y5 y6, LeO (laws_FnConfigurations.j0 k y0 y1 y2 y3 y4 y5 y6) (laws_FnConfigurations.j0 (k + 1) y0 y1 y2 y3 y4 y5 y6)) ∧ (∀ y0 y1 y2 y3 y4 y5 y6, LeO (laws_FnConfigurations.j1 k y0 y1 y2 y3 y4 y5 y6) (laws_FnConfigurations.j1 (k + 1) y0 y1 y2 y3 y4 y5 y6)) ∧ (∀ y0, LeO (laws_FnConfigurations.j2 k y0) (laws_FnConfigurations.j2 (k + 1) y0)) ∧ (∀ y0 y1 y2 y3 y4 y5, LeO (laws_FnConfigurations.j3 k y0 y1 y2 y3 y4 y5) (laws_FnConfigurations.j3 (k + 1) y0 y1 y2 y3 y4 y5)) ∧ (∀ y0, LeO (laws_FnConfigurations.j5 k y0) (laws_FnConfigurations.j5 (k + 1) y0)) ∧ (∀ y0 y1 y2, LeO (laws_FnConfigurations.j6 k y0 y1 y2) (laws_FnConfigurations.j6 (k + 1) y0 y1 y2)) ∧ (∀ y0 y1 y2 y3 y4, LeO (laws_FnConfigurations.j4 k y0 y1 y2 y3 y4) (laws_FnConfigurations.j4 (k + 1) y0 y1 y2 y3 y4))
 | 0 => ⟨fun _ _ _ _ _ _ _ r h => by simp [laws_FnConfigurations.j0] at h, fun _ _ _ _ _ _ _ r h => by simp [laws_FnConfigurations.j1] at h, fun _ r h => by simp [laws_FnConfigurations.j2] at h, fun _ _ _ _ _ _ r h => by simp [laws_FnConfigurations.j3] at h, fun _ r h => by simp [laws_FnConfigurations.j5] at h, fun _ _ _ r h => by simp [laws_FnConfigurations.j6] at h, fun _ _ _ _ _ r h => by simp [laws_FnConfigurations.j4] at h⟩
 | k + 1 => by
  obtain ⟨ih0, ih1, ih2, ih3, ih4, ih5, ih6⟩ := laws_FnConfigurations.mono_l k
  refine ⟨?_, ?_, ?_, ?_, ?_, ?_, ?_⟩
  ·
   intro y0 y1 y2 y3 y4 y5 y6
   unfold laws_FnConfigurations.j0
   repeat' first
   | (with_reducible exact ih0 _ _ _ _ _ _ _)
   | (with_reducible exact ih1 _ _ _ _ _ _ _)
   | (with_reducible exact ih2 _)
   | (with_reducible exact ih3 _ _ _ _ _ _)
   | (with_reducible exact ih4 _)
   | (with_reducible exact ih5 _ _ _)
   | (with_reducible exact ih6 _ _ _ _ _)
   | (with_reducible exact impl_CurvaturesOf.mono _ _)
   | (with_reducible exact impl_FollowCircles.mono _ _ _)
   | (with_reducible exact impl_FollowSwaps.mono _ _ _)
   | (with_reducible exact impl_IsConfig.mono _ _)
   | (with_reducible exact impl_SwapAt.mono _ _ _)
   | (with_reducible exact impl_SwapCircle.mono _ _ _)
   | (with_reducible exact laws_dCircles.mono _ _ _)
   | (with_reducible exact laws_dSame.mono _ _ _)
   | (with_reducible exact spec_CurvaturesOf.mono _ _)
   | (with_reducible exact spec_DrawFollowCircles.mono _ _)
   | (with_reducible exact spec_DrawSwapCircle.mono _ _)
   | (with_reducible exact spec_FollowCircles.mono _ _ _)
   | (with_reducible exact spec_IsConfig.mono _ _)
   | (with_reducible exact spec_SwapCircle.mono _ _ _)
   | (with_reducible exact LeO.refl _)
   | (with_reducible exact LeO.none _)
   | (with_reducible refine LeO.ite ?_ ?_)
   | (with_reducible refine LeO.bind ?_ (fun _ => ?_))
   | exact ih0 _ _ _ _ _ _ _
   | exact ih1 _ _ _ _ _ _ _
   | exact ih2 _
   | exact ih3 _ _ _ _ _ _
   | exact ih4 _
   | exact ih5 _ _ _
   | exact ih6 _ _ _ _ _
   | exact impl_CurvaturesOf.mono _ _
   | exact impl_FollowCircles.mono _ _ _
   | exact impl_FollowSwaps.mono _ _ _
   | exact impl_IsConfig.mono _ _
   | exact impl_SwapAt.mono _ _ _
   | exact impl_SwapCircle.mono _ _ _
   | exact laws_dCircles.mono _ _ _
   | exact laws_dSame.mono _ _ _
   | exact spec_CurvaturesOf.mono _ _
   | exact spec_DrawFollowCircles.mono _ _
   | exact spec_DrawSwapCircle.mono _ _
   | exact spec_FollowCircles.mono _ _ _
   | exact spec_IsConfig.mono _ _
   | exact spec_SwapCircle.mono _ _ _
   | exact LeO.none _
   | refine LeO.ite ?_ ?_
   | refine LeO.bind ?_ (fun _ => ?_)
  ·
   intro y0 y1 y2 y3 y4 y5 y6
   unfold laws_FnConfigurations.j1
   repeat' first
   | (with_reducible exact ih0 _ _ _ _ _ _ _)
   | (with_reducible exact ih1 _ _ _ _ _ _ _)
   | (with_reducible exact ih2 _)
   | (with_reducible exact ih3 _ _ _ _ _ _)
   | (with_reducible exact ih4 _)
   | (with_reducible exact ih5 _ _ _)
   | (with_reducible exact ih6 _ _ _ _ _)
   | (with_reducible exact impl_CurvaturesOf.mono _ _)
   | (with_reducible exact impl_FollowCircles.mono _ _ _)
   | (with_reducible exact impl_FollowSwaps.mono _ _ _)
   | (with_reducible exact impl_IsConfig.mono _ _)
   | (with_reducible exact impl_SwapAt.mono _ _ _)
   | (with_reducible exact impl_SwapCircle.mono _ _ _)
   | (with_reducible exact laws_dCircles.mono _ _ _)
   | (with_reducible exact laws_dSame.mono _ _ _)
   | (with_reducible exact spec_CurvaturesOf.mono _ _)
   | (with_reducible exact spec_DrawFollowCircles.mono _ _)
   | (with_reducible exact spec_DrawSwapCircle.mono _ _)
   | (with_reducible exact spec_FollowCircles.mono _ _ _)
   | (with_reducible exact spec_IsConfig.mono _ _)
   | (with_reducible exact spec_SwapCircle.mono _ _ _)
   | (with_reducible exact LeO.refl _)
   | (with_reducible exact LeO.none _)
   | (with_reducible refine LeO.ite ?_ ?_)
   | (with_reducible refine LeO.bind ?_ (fun _ => ?_))
   | exact ih0 _ _ _ _ _ _ _
   | exact ih1 _ _ _ _ _ _ _
   | exact ih2 _
   | exact ih3 _ _ _ _ _ _
   | exact ih4 _
   | exact ih5 _ _ _
   | exact ih6 _ _ _ _ _
   | exact impl_CurvaturesOf.mono _ _
   | exact impl_FollowCircles.mono _ _ _
   | exact impl_FollowSwaps.mono _ _ _
   | exact impl_IsConfig.mono _ _
   | exact impl_SwapAt.mono _ _ _
   | exact impl_SwapCircle.mono _ _ _
   | exact laws_dCircles.mono _ _ _
   | exact laws_dSame.mono _ _ _
   | exact spec_CurvaturesOf.mono _ _
   | exact spec_DrawFollowCircles.mono _ _
   | exact spec_DrawSwapCircle.mono _ _
   | exact spec_FollowCircles.mono _ _ _
   | exact spec_IsConfig.mono _ _
   | exact spec_SwapCircle.mono _ _ _
   | exact LeO.none _
   | refine LeO.ite ?_ ?_
   | refine LeO.bind ?_ (fun _ => ?_)
  ·
   intro y0
   unfold laws_FnConfigurations.j2
   repeat' first
   | (with_reducible exact ih0 _ _ _ _ _ _ _)
   | (with_reducible exact ih1 _ _ _ _ _ _ _)
   | (with_reducible exact ih2 _)
   | (with_reducible exact ih3 _ _ _ _ _ _)
   | (with_reducible exact ih4 _)
   | (with_reducible exact ih5 _ _ _)
   | (with_reducible exact ih6 _ _ _ _ _)
   | (with_reducible exact impl_CurvaturesOf.mono _ _)
   | (with_reducible exact impl_FollowCircles.mono _ _ _)
   | (with_reducible exact impl_FollowSwaps.mono _ _ _)
   | (with_reducible exact impl_IsConfig.mono _ _)
   | (with_reducible exact impl_SwapAt.mono _ _ _)
   | (with_reducible exact impl_SwapCircle.mono _ _ _)
   | (with_reducible exact laws_dCircles.mono _ _ _)
   | (with_reducible exact laws_dSame.mono _ _ _)
   | (with_reducible exact spec_CurvaturesOf.mono _ _)
   | (with_reducible exact spec_DrawFollowCircles.mono _ _)
   | (with_reducible exact spec_DrawSwapCircle.mono _ _)
   | (with_reducible exact spec_FollowCircles.mono _ _ _)
   | (with_reducible exact spec_IsConfig.mono _ _)
   | (with_reducible exact spec_SwapCircle.mono _ _ _)
   | (with_reducible exact LeO.refl _)
   | (with_reducible exact LeO.none _)
   | (with_reducible refine LeO.ite ?_ ?_)
   | (with_reducible refine LeO.bind ?_ (fun _ => ?_))
   | exact ih0 _ _ _ _ _ _ _
   | exact ih1 _ _ _ _ _ _ _
   | exact ih2 _
   | exact ih3 _ _ _ _ _ _
   | exact ih4 _
   | exact ih5 _ _ _
   | exact ih6 _ _ _ _ _
   | exact impl_CurvaturesOf.mono _ _
   | exact impl_FollowCircles.mono _ _ _
   | exact impl_FollowSwaps.mono _ _ _
   | exact impl_IsConfig.mono _ _
   | exact impl_SwapAt.mono _ _ _
   | exact impl_SwapCircle.mono _ _ _
   | exact laws_dCircles.mono _ _ _
   | exact laws_dSame.mono _ _ _
   | exact spec_CurvaturesOf.mono _ _
   | exact spec_DrawFollowCircles.mono _ _
   | exact spec_DrawSwapCircle.mono _ _
   | exact spec_FollowCircles.mono _ _ _
   | exact spec_IsConfig.mono _ _
   | exact spec_SwapCircle.mono _ _ _
   | exact LeO.none _
   | refine LeO.ite ?_ ?_
   | refine LeO.bind ?_ (fun _ => ?_)
  ·
   intro y0 y1 y2 y3 y4 y5
   unfold laws_FnConfigurations.j3
   repeat' first
   | (with_reducible exact ih0 _ _ _ _ _ _ _)
   | (with_reducible exact ih1 _ _ _ _ _ _ _)
   | (with_reducible exact ih2 _)
   | (with_reducible exact ih3 _ _ _ _ _ _)
   | (with_reducible exact ih4 _)
   | (with_reducible exact ih5 _ _ _)
   | (with_reducible exact ih6 _ _ _ _ _)
   | (with_reducible exact impl_CurvaturesOf.mono _ _)
   | (with_reducible exact impl_FollowCircles.mono _ _ _)
   | (with_reducible exact impl_FollowSwaps.mono _ _ _)
   | (with_reducible exact impl_IsConfig.mono _ _)
   | (with_reducible exact impl_SwapAt.mono _ _ _)
   | (with_reducible exact impl_SwapCircle.mono _ _ _)
   | (with_reducible exact laws_dCircles.mono _ _ _)
   | (with_reducible exact laws_dSame.mono _ _ _)
   | (with_reducible exact spec_CurvaturesOf.mono _ _)
   | (with_reducible exact spec_DrawFollowCircles.mono _ _)
   | (with_reducible exact spec_DrawSwapCircle.mono _ _)
   | (with_reducible exact spec_FollowCircles.mono _ _ _)
   | (with_reducible exact spec_IsConfig.mono _ _)
   | (with_reducible exact spec_SwapCircle.mono _ _ _)
   | (with_reducible exact LeO.refl _)
   | (with_reducible exact LeO.none _)
   | (with_reducible refine LeO.ite ?_ ?_)
   | (with_reducible refine LeO.bind ?_ (fun _ => ?_))
   | exact ih0 _ _ _ _ _ _ _
   | exact ih1 _ _ _ _ _ _ _
   | exact ih2 _
   | exact ih3 _ _ _ _ _ _
   | exact ih4 _
   | exact ih5 _ _ _
   | exact ih6 _ _ _ _ _
   | exact impl_CurvaturesOf.mono _ _
   | exact impl_FollowCircles.mono _ _ _
   | exact impl_FollowSwaps.mono _ _ _
   | exact impl_IsConfig.mono _ _
   | exact impl_SwapAt.mono _ _ _
   | exact impl_SwapCircle.mono _ _ _
   | exact laws_dCircles.mono _ _ _
   | exact laws_dSame.mono _ _ _
   | exact spec_CurvaturesOf.mono _ _
   | exact spec_DrawFollowCircles.mono _ _
   | exact spec_DrawSwapCircle.mono _ _
   | exact spec_FollowCircles.mono _ _ _
   | exact spec_IsConfig.mono _ _
   | exact spec_SwapCircle.mono _ _ _
   | exact LeO.none _
   | refine LeO.ite ?_ ?_
   | refine LeO.bind ?_ (fun _ => ?_)
  ·
   intro y0
   unfold laws_FnConfigurations.j5
   repeat' first
   | (with_reducible exact ih0 _ _ _ _ _ _ _)
   | (with_reducible exact ih1 _ _ _ _ _ _ _)
   | (with_reducible exact ih2 _)
   | (with_reducible exact ih3 _ _ _ _ _ _)
   | (with_reducible exact ih4 _)
   | (with_reducible exact ih5 _ _ _)
   | (with_reducible exact ih6 _ _ _ _ _)
   | (with_reducible exact impl_CurvaturesOf.mono _ _)
   | (with_reducible exact impl_FollowCircles.mono _ _ _)
   | (with_reducible exact impl_FollowSwaps.mono _ _ _)
   | (with_reducible exact impl_IsConfig.mono _ _)
   | (with_reducible exact impl_SwapAt.mono _ _ _)
   | (with_reducible exact impl_SwapCircle.mono _ _ _)
   | (with_reducible exact laws_dCircles.mono _ _ _)
   | (with_reducible exact laws_dSame.mono _ _ _)
   | (with_reducible exact spec_CurvaturesOf.mono _ _)
   | (with_reducible exact spec_DrawFollowCircles.mono _ _)
   | (with_reducible exact spec_DrawSwapCircle.mono _ _)
   | (with_reducible exact spec_FollowCircles.mono _ _ _)
   | (with_reducible exact spec_IsConfig.mono _ _)
   | (with_reducible exact spec_SwapCircle.mono _ _ _)
   | (with_reducible exact LeO.refl _)
   | (with_reducible exact LeO.none _)
   | (with_reducible refine LeO.ite ?_ ?_)
   | (with_reducible refine LeO.bind ?_ (fun _ => ?_))
   | exact ih0 _ _ _ _ _ _ _
   | exact ih1 _ _ _ _ _ _ _
   | exact ih2 _
   | exact ih3 _ _ _ _ _ _
   | exact ih4 _
   | exact ih5 _ _ _
   | exact ih6 _ _ _ _ _
   | exact impl_CurvaturesOf.mono _ _
   | exact impl_FollowCircles.mono _ _ _
   | exact impl_FollowSwaps.mono _ _ _
   | exact impl_IsConfig.mono _ _
   | exact impl_SwapAt.mono _ _ _
   | exact impl_SwapCircle.mono _ _ _
   | exact laws_dCircles.mono _ _ _
   | exact laws_dSame.mono _ _ _
   | exact spec_CurvaturesOf.mono _ _
   | exact spec_DrawFollowCircles.mono _ _
   | exact spec_DrawSwapCircle.mono _ _
   | exact spec_FollowCircles.mono _ _ _
   | exact spec_IsConfig.mono _ _
   | exact spec_SwapCircle.mono _ _ _
   | exact LeO.none _
   | refine LeO.ite ?_ ?_
   | refine LeO.bind ?_ (fun _ => ?_)
  ·
   intro y0 y1 y2
   unfold laws_FnConfigurations.j6
   repeat' first
   | (with_reducible exact ih0 _ _ _ _ _ _ _)
   | (with_reducible exact ih1 _ _ _ _ _ _ _)
   | (with_reducible exact ih2 _)
   | (with_reducible exact ih3 _ _ _ _ _ _)
   | (with_reducible exact ih4 _)
   | (with_reducible exact ih5 _ _ _)
   | (with_reducible exact ih6 _ _ _ _ _)
   | (with_reducible exact impl_CurvaturesOf.mono _ _)
   | (with_reducible exact impl_FollowCircles.mono _ _ _)
   | (with_reducible exact impl_FollowSwaps.mono _ _ _)
   | (with_reducible exact impl_IsConfig.mono _ _)
   | (with_reducible exact impl_SwapAt.mono _ _ _)
   | (with_reducible exact impl_SwapCircle.mono _ _ _)
   | (with_reducible exact laws_dCircles.mono _ _ _)
   | (with_reducible exact laws_dSame.mono _ _ _)
   | (with_reducible exact spec_CurvaturesOf.mono _ _)
   | (with_reducible exact spec_DrawFollowCircles.mono _ _)
   | (with_reducible exact spec_DrawSwapCircle.mono _ _)
   | (with_reducible exact spec_FollowCircles.mono _ _ _)
   | (with_reducible exact spec_IsConfig.mono _ _)
   | (with_reducible exact spec_SwapCircle.mono _ _ _)
   | (with_reducible exact LeO.refl _)
   | (with_reducible exact LeO.none _)
   | (with_reducible refine LeO.ite ?_ ?_)
   | (with_reducible refine LeO.bind ?_ (fun _ => ?_))
   | exact ih0 _ _ _ _ _ _ _
   | exact ih1 _ _ _ _ _ _ _
   | exact ih2 _
   | exact ih3 _ _ _ _ _ _
   | exact ih4 _
   | exact ih5 _ _ _
   | exact ih6 _ _ _ _ _
   | exact impl_CurvaturesOf.mono _ _
   | exact impl_FollowCircles.mono _ _ _
   | exact impl_FollowSwaps.mono _ _ _
   | exact impl_IsConfig.mono _ _
   | exact impl_SwapAt.mono _ _ _
   | exact impl_SwapCircle.mono _ _ _
   | exact laws_dCircles.mono _ _ _
   | exact laws_dSame.mono _ _ _
   | exact spec_CurvaturesOf.mono _ _
   | exact spec_DrawFollowCircles.mono _ _
   | exact spec_DrawSwapCircle.mono _ _
   | exact spec_FollowCircles.mono _ _ _
   | exact spec_IsConfig.mono _ _
   | exact spec_SwapCircle.mono _ _ _
   | exact LeO.none _
   | refine LeO.ite ?_ ?_
   | refine LeO.bind ?_ (fun _ => ?_)
  ·
   intro y0 y1 y2 y3 y4
   unfold laws_FnConfigurations.j4
   repeat' first
   | (with_reducible exact ih0 _ _ _ _ _ _ _)
   | (with_reducible exact ih1 _ _ _ _ _ _ _)
   | (with_reducible exact ih2 _)
   | (with_reducible exact ih3 _ _ _ _ _ _)
   | (with_reducible exact ih4 _)
   | (with_reducible exact ih5 _ _ _)
   | (with_reducible exact ih6 _ _ _ _ _)
   | (with_reducible exact impl_CurvaturesOf.mono _ _)
   | (with_reducible exact impl_FollowCircles.mono _ _ _)
   | (with_reducible exact impl_FollowSwaps.mono _ _ _)
   | (with_reducible exact impl_IsConfig.mono _ _)
   | (with_reducible exact impl_SwapAt.mono _ _ _)
   | (with_reducible exact impl_SwapCircle.mono _ _ _)
   | (with_reducible exact laws_dCircles.mono _ _ _)
   | (with_reducible exact laws_dSame.mono _ _ _)
   | (with_reducible exact spec_CurvaturesOf.mono _ _)
   | (with_reducible exact spec_DrawFollowCircles.mono _ _)
   | (with_reducible exact spec_DrawSwapCircle.mono _ _)
   | (with_reducible exact spec_FollowCircles.mono _ _ _)
   | (with_reducible exact spec_IsConfig.mono _ _)
   | (with_reducible exact spec_SwapCircle.mono _ _ _)
   | (with_reducible exact LeO.refl _)
   | (with_reducible exact LeO.none _)
   | (with_reducible refine LeO.ite ?_ ?_)
   | (with_reducible refine LeO.bind ?_ (fun _ => ?_))
   | exact ih0 _ _ _ _ _ _ _
   | exact ih1 _ _ _ _ _ _ _
   | exact ih2 _
   | exact ih3 _ _ _ _ _ _
   | exact ih4 _
   | exact ih5 _ _ _
   | exact ih6 _ _ _ _ _
   | exact impl_CurvaturesOf.mono _ _
   | exact impl_FollowCircles.mono _ _ _
   | exact impl_FollowSwaps.mono _ _ _
   | exact impl_IsConfig.mono _ _
   | exact impl_SwapAt.mono _ _ _
   | exact impl_SwapCircle.mono _ _ _
   | exact laws_dCircles.mono _ _ _
   | exact laws_dSame.mono _ _ _
   | exact spec_CurvaturesOf.mono _ _
   | exact spec_DrawFollowCircles.mono _ _
   | exact spec_DrawSwapCircle.mono _ _
   | exact spec_FollowCircles.mono _ _ _
   | exact spec_IsConfig.mono _ _
   | exact spec_SwapCircle.mono _ _ _
   | exact LeO.none _
   | refine LeO.ite ?_ ?_
   | refine LeO.bind ?_ (fun _ => ?_)
theorem laws_FnConfigurations.mono : ∀ a0 a1 k, LeO (laws_FnConfigurations.f k a0 a1) (laws_FnConfigurations.f (k + 1) a0 a1) := by
 intro a0 a1 k
 obtain ⟨ih0, ih1, ih2, ih3, ih4, ih5, ih6⟩ := laws_FnConfigurations.mono_l k
 unfold laws_FnConfigurations.f
 repeat' first
   | (with_reducible exact ih0 _ _ _ _ _ _ _)
   | (with_reducible exact ih1 _ _ _ _ _ _ _)
   | (with_reducible exact ih2 _)
   | (with_reducible exact ih3 _ _ _ _ _ _)
   | (with_reducible exact ih4 _)
   | (with_reducible exact ih5 _ _ _)
   | (with_reducible exact ih6 _ _ _ _ _)
   | (with_reducible exact impl_CurvaturesOf.mono _ _)
   | (with_reducible exact impl_FollowCircles.mono _ _ _)
   | (with_reducible exact impl_FollowSwaps.mono _ _ _)
   | (with_reducible exact impl_IsConfig.mono _ _)
   | (with_reducible exact impl_SwapAt.mono _ _ _)
   | (with_reducible exact impl_SwapCircle.mono _ _ _)
   | (with_reducible exact laws_dCircles.mono _ _ _)
   | (with_reducible exact laws_dSame.mono _ _ _)
   | (with_reducible exact spec_CurvaturesOf.mono _ _)
   | (with_reducible exact spec_DrawFollowCircles.mono _ _)
   | (with_reducible exact spec_DrawSwapCircle.mono _ _)
   | (with_reducible exact spec_FollowCircles.mono _ _ _)
   | (with_reducible exact spec_IsConfig.mono _ _)
   | (with_reducible exact spec_SwapCircle.mono _ _ _)
   | (with_reducible exact LeO.refl _)
   | (with_reducible exact LeO.none _)
   | (with_reducible refine LeO.ite ?_ ?_)
   | (with_reducible refine LeO.bind ?_ (fun _ => ?_))
   | exact ih0 _ _ _ _ _ _ _
   | exact ih1 _ _ _ _ _ _ _
   | exact ih2 _
   | exact ih3 _ _ _ _ _ _
   | exact ih4 _
   | exact ih5 _ _ _
   | exact ih6 _ _ _ _ _
   | exact impl_CurvaturesOf.mono _ _
   | exact impl_FollowCircles.mono _ _ _
   | exact impl_FollowSwaps.mono _ _ _
   | exact impl_IsConfig.mono _ _
   | exact impl_SwapAt.mono _ _ _
   | exact impl_SwapCircle.mono _ _ _
   | exact laws_dCircles.mono _ _ _
   | exact laws_dSame.mono _ _ _
   | exact spec_CurvaturesOf.mono _ _
   | exact spec_DrawFollowCircles.mono _ _
   | exact spec_DrawSwapCircle.mono _ _
   | exact spec_FollowCircles.mono _ _ _
   | exact spec_IsConfig.mono _ _
   | exact spec_SwapCircle.mono _ _ _
   | exact LeO.none _
   | refine LeO.ite ?_ ?_
   | refine LeO.bind ?_ (fun _ => ?_)
set_option maxHeartbeats 8000000 in
set_option maxRecDepth 100000 in
theorem laws_FnConfigurations.calls (k : Nat) (A0 : Option Addr) (c0 : Nat) (l0 : List Int) (A1 : Option Addr) (c1 : Nat) (l1 : List Int) (r : Bool) (w : World) (hr0 : Kd.C (Kd.int .u8) w A0 l0.length l0) (hc0 : l0.length ≤ c0) (hr1 : Kd.C (Kd.int .u8) w A1 l1.length l1) (hc1 : l1.length ≤ c1) (h : laws_FnConfigurations.f k l0 l1 = some r) :
  Calls Try.prog 5 #[.slice A0 l0.length c0, .slice A1 l1.length c1] w fun e w' => e = .returned (.bool r) ∧ Below w.heap.size w w' := by
 have HR0 := Aside0.mk hr0
 have HC0 := Aside0.mk hc0
 clear hr0 hc0
 have HR1 := Aside0.mk hr1
 have HC1 := Aside0.mk hc1
 clear hr1 hc1
 have HB := Aside0.mk (Below.refl w.heap.size w)
 have H : ((laws_big.f l0 l1).bind fun t817 => (if t817 = true then (some true) else ((spec_DrawSwapCircle.f k l0).bind fun bt818 => ((impl_SwapCircle.f k bt818.1 bt818.2).bind fun bt822 => ((spec_SwapCircle.f k bt818.1 bt818.2).bind fun bt826 => ((impl_IsConfig.f k bt818.1).bind fun bt830 => ((spec_IsConfig.f k bt818.1).bind fun bt832 => (if (bt822.2 != bt826.2) = true then (laws_FnConfigurations.j0 k l1 bt818.1 bt818.2 bt822.1 bt822.2 bt830.1 true) else ((laws_dCircles.f k bt822.1 bt826.1).bind fun t834 => (if t834 = true then (if (bt830.2 != bt832.2) = true then (laws_FnConfigurations.j0 k l1 bt818.1 bt818.2 bt822.1 bt822.2 bt830.1 true) else (if (bt830.1 != bt832.1) = true then (laws_FnConfigurations.j0 k l1 bt818.1 bt818.2 bt822.1 bt822.2 bt830.1 true) else (if bt822.2 = true then (laws_FnConfigurations.j0 k l1 bt818.1 bt818.2 bt822.1 bt822.2 bt830.1 (!bt830.1)) else (laws_FnConfigurations.j0 k l1 bt818.1 bt818.2 bt822.1 bt822.2 bt830.1 false)))) else (laws_FnConfigurations.j0 k l1 bt818.1 bt818.2 bt822.1 bt822.2 bt830.1 true))))))))))) = some r := h
 clear h
 replace H := Option.bind_eq_some_iff.mp H
 obtain ⟨t817, A30, H⟩ := H
 replace H : (if t817 = true then (some true) else ((spec_DrawSwapCircle.f k l0).bind fun bt818 => ((impl_SwapCircle.f k bt818.1 bt818.2).bind fun bt822 => ((spec_SwapCircle.f k bt818.1 bt818.2).bind fun bt826 => ((impl_IsConfig.f k bt818.1).bind fun bt830 => ((spec_IsConfig.f k bt818.1).bind fun bt832 => (if (bt822.2 != bt826.2) = true then (laws_FnConfigurations.j0 k l1 bt818.1 bt818.2 bt822.1 bt822.2 bt830.1 true) else ((laws_dCircles.f k bt822.1 bt826.1).bind fun t834 => (if t834 = true then (if (bt830.2 != bt832.2) = true then (laws_FnConfigurations.j0 k l1 bt818.1 bt818.2 bt822.1 bt822.2 bt830.1 true) else (if (bt830.1 != bt832.1) = true then (laws_FnConfigurations.j0 k l1 bt818.1 bt818.2 bt822.1 bt822.2 bt830.1 true) else (if bt822.2 = true then (laws_FnConfigurations.j0 k l1 bt818.1 bt818.2 bt822.1 bt822.2 bt830.1 (!bt830.1)) else (laws_FnConfigurations.j0 k l1 bt818.1 bt818.2 bt822.1 bt822.2 bt830.1 false)))) else (laws_FnConfigurations.j0 k l1 bt818.1 bt818.2 bt822.1 bt822.2 bt830.1 true)))))))))) = some r := H
 have A3 := Aside0.mk A30
 clear A30
 by_cases c4 : t817 = true
 ·
  subst c4
  have H1 : (some true) = some r := by rw [if_pos rfl] at H; exact H
  clear H
  have H := H1
  clear H1
  obtain rfl := Option.some.inj H
  go_enter Try.func5, Try.ntmps5
  go_wp2_with (first | ((with_reducible refine gate_callee (f := 6) rfl ?_); refine goesL_ (some 50) rfl rfl Try.func6 (by kernel_rfl) rfl #[.slice A0 l0.length c0, .slice A1 l1.length c1] rfl (by (try simp only [List.map_toArray, List.map_cons, List.map_nil]); first | done | rfl | (simp only [List.length_drop, List.length_take]; rfl)) ?_; (with_reducible refine (laws_big.calls _ _ l0 _ _ l1 true _ ?side1 ?side2 ?side3 ?side4 A3.out).mono ?_); (case side1 => repeat (first | exact HR0.out | (with_reducible refine Kd.C_alloc ?_ _) | (with_reducible refine Kd.C_drewN ?_ _) | (with_reducible refine Kd.C_drew ?_))); (case side2 => exact HC0.out); (case side3 => repeat (first | exact HR1.out | (with_reducible refine Kd.C_alloc ?_ _) | (with_reducible refine Kd.C_drewN ?_ _) | (with_reducible refine Kd.C_drew ?_))); (case side4 => exact HC1.out); rintro e w' ⟨rfl, ⟨nd, rfl⟩⟩; refine ⟨_, rfl, ?_⟩))
  go_ret
  exact ⟨by first | rfl | (simp [errW_none, errW_some] <;> rfl) | (simp [*, errW_none, errW_some] <;> rfl), by repeat (first | (with_reducible first | exact HB.out | apply below_alloc | apply pw_below_drewN | apply below_drew1) | exact HB.out)⟩
 ·
  replace c4 := Bool.eq_false_iff.mpr c4
  subst c4
  have H1 : ((spec_DrawSwapCircle.f k l0).bind fun bt818 => ((impl_SwapCircle.f k bt818.1 bt818.2).bind fun bt822 => ((spec_SwapCircle.f k bt818.1 bt818.2).bind fun bt826 => ((impl_IsConfig.f k bt818.1).bind fun bt830 => ((spec_IsConfig.f k bt818.1).bind fun bt832 => (if (bt822.2 != bt826.2) = true then (laws_FnConfigurations.j0 k l1 bt818.1 bt818.2 bt822.1 bt822.2 bt830.1 true) else ((laws_dCircles.f k bt822.1 bt826.1).bind fun t834 => (if t834 = true then (if (bt830.2 != bt832.2) = true then (laws_FnConfigurations.j0 k l1 bt818.1 bt818.2 bt822.1 bt822.2 bt830.1 true) else (if (bt830.1 != bt832.1) = true then (laws_FnConfigurations.j0 k l1 bt818.1 bt818.2 bt822.1 bt822.2 bt830.1 true) else (if bt822.2 = true then (laws_FnConfigurations.j0 k l1 bt818.1 bt818.2 bt822.1 bt822.2 bt830.1 (!bt830.1)) else (laws_FnConfigurations.j0 k l1 bt818.1 bt818.2 bt822.1 bt822.2 bt830.1 false)))) else (laws_FnConfigurations.j0 k l1 bt818.1 bt818.2 bt822.1 bt822.2 bt830.1 true))))))))) = some r := by rw [if_neg (show ¬ (false = true) by decide)] at H; exact H
  clear H
  have H := H1
  clear H1
  replace H := Option.bind_eq_some_iff.mp H
  obtain ⟨⟨t818, t819⟩, A50, H⟩ := H
  replace H : ((impl_SwapCircle.f k t818 t819).bind fun bt822 => ((spec_SwapCircle.f k t818 t819).bind fun bt826 => ((impl_IsConfig.f k t818).bind fun bt830 => ((spec_IsConfig.f k t818).bind fun bt832 => (if (bt822.2 != bt826.2) = true then (laws_FnConfigurations.j0 k l1 t818 t819 bt822.1 bt822.2 bt830.1 true) else ((laws_dCircles.f k bt822.1 bt826.1).bind fun t834 => (if t834 = true then (if (bt830.2 != bt832.2) = true then (laws_FnConfigurations.j0 k l1 t818 t819 bt822.1 bt822.2 bt830.1 true) else (if (bt830.1 != bt832.1) = true then (laws_FnConfigurations.j0 k l1 t818 t819 bt822.1 bt822.2 bt830.1 true) else (if bt822.2 = true then (laws_FnConfigurations.j0 k l1 t818 t819 bt822.1 bt822.2 bt830.1 (!bt830.1)) else (laws_FnConfigurations.j0 k l1 t818 t819 bt822.1 bt822.2 bt830.1 false)))) else (laws_FnConfigurations.j0 k l1 t818 t819 bt822.1 bt822.2 bt830.1 true)))))))) = some r := H
  have A5 := Aside0.mk A50
  clear A50
  replace H := Option.bind_eq_some_iff.mp H
  obtain ⟨⟨t822, t823⟩, A60, H⟩ := H
  replace H : ((spec_SwapCircle.f k t818 t819).bind fun bt826 => ((impl_IsConfig.f k t818).bind fun bt830 => ((spec_IsConfig.f k t818).bind fun bt832 => (if (t823 != bt826.2) = true then (laws_FnConfigurations.j0 k l1 t818 t819 t822 t823 bt830.1 true) else ((laws_dCircles.f k t822 bt826.1).bind fun t834 => (if t834 = true then (if (bt830.2 != bt832.2) = true then (laws_FnConfigurations.j0 k l1 t818 t819 t822 t823 bt830.1 true) else (if (bt830.1 != bt832.1) = true then (laws_FnConfigurations.j0 k l1 t818 t819 t822 t823 bt830.1 true) else (if t823 = true then (laws_FnConfigurations.j0 k l1 t818 t819 t822 t823 bt830.1 (!bt830.1)) else (laws_FnConfigurations.j0 k l1 t818 t819 t822 t823 bt830.1 false)))) else (laws_FnConfigurations.j0 k l1 t818 t819 t822 t823 bt830.1 true))))))) = some r := H
  have A6 := Aside0.mk A60
  clear A60
  replace H := Option.bind_eq_some_iff.mp H
  obtain ⟨⟨t826, t827⟩, A70, H⟩ := H
  replace H : ((impl_IsConfig.f k t818).bind fun bt830 => ((spec_IsConfig.f k t818).bind fun bt832 => (if (t823 != t827) = true then (laws_FnConfigurations.j0 k l1 t818 t819 t822 t823 bt830.1 true) else ((laws_dCircles.f k t822 t826).bind fun t834 => (if t834 = true then (if (bt830.2 != bt832.2) = true then (laws_FnConfigurations.j0 k l1 t818 t819 t822 t823 bt830.1 true) else (if (bt830.1 != bt832.1) = true then (laws_FnConfigurations.j0 k l1 t818 t819 t822 t823 bt830.1 true) else (if t823 = true then (laws_FnConfigurations.j0 k l1 t818 t819 t822 t823 bt830.1 (!bt830.1)) else (laws_FnConfigurations.j0 k l1 t818 t819 t822 t823 bt830.1 false)))) else (laws_FnConfigurations.j0 k l1 t818 t819 t822 t823 bt830.1 true)))))) = some r := H
  have A7 := Aside0.mk A70
  clear A70
  replace H := Option.bind_eq_some_iff.mp H
  obtain ⟨⟨t830, t831⟩, A80, H⟩ := H
  replace H : ((spec_IsConfig.f k t818).bind fun bt832 => (if (t823 != t827) = true then (laws_FnConfigurations.j0 k l1 t818 t819 t822 t823 t830 true) else ((laws_dCircles.f k t822 t826).bind fun t834 => (if t834 = true then (if (t831 != bt832.2) = true then (laws_FnConfigurations.j0 k l1 t818 t819 t822 t823 t830 true) else (if (t830 != bt832.1) = true then (laws_FnConfigurations.j0 k l1 t818 t819 t822 t823 t830 true) else (if t823 = true then (laws_FnConfigurations.j0 k l1 t818 t819 t822 t823 t830 (!t830)) else (laws_FnConfigurations.j0 k l1 t818 t819 t822 t823 t830 false)))) else (laws_FnConfigurations.j0 k l1 t818 t819 t822 t823 t830 true))))) = some r := H
  have A8 := Aside0.mk A80
  clear A80
  replace H := Option.bind_eq_some_iff.mp H
  obtain ⟨⟨t832, t833⟩, A90, H⟩ := H
  replace H : (if (t823 != t827) = true then (laws_FnConfigurations.j0 k l1 t818 t819 t822 t823 t830 true) else ((laws_dCircles.f k t822 t826).bind fun t834 => (if t834 = true then (if (t831 != t833) = true then (laws_FnConfigurations.j0 k l1 t818 t819 t822 t823 t830 true) else (if (t830 != t832) = true then (laws_FnConfigurations.j0 k l1 t818 t819 t822 t823 t830 true) else (if t823 = true then (laws_FnConfigurations.j0 k l1 t818 t819 t822 t823 t830 (!t830)) else (laws_FnConfigurations.j0 k l1 t818 t819 t822 t823 t830 false)))) else (laws_FnConfigurations.j0 k l1 t818 t819 t822 t823 t830 true)))) = some r := H
  have A9 := Aside0.mk A90
  clear A90
  have HC10 := Aside0.mk H
  clear H
  go_enter Try.func5, Try.ntmps5
  go_upto_region 8 with (first | ((with_reducible refine gate_callee (f := 6) rfl ?_); refine goesL_ (some 50) rfl rfl Try.func6 (by kernel_rfl) rfl #[.slice A0 l0.length c0, .slice A1 l1.length c1] rfl (by (try simp only [List.map_toArray, List.map_cons, List.map_nil]); first | done | rfl | (simp only [List.length_drop, List.length_take]; rfl)) ?_; (with_reducible refine (laws_big.calls _ _ l0 _ _ l1 false _ ?side1 ?side2 ?side3 ?side4 A3.out).mono ?_); (case side1 => repeat (first | exact HR0.out | (with_reducible refine Kd.C_alloc ?_ _) | (with_reducible refine Kd.C_drewN ?_ _) | (with_reducible refine Kd.C_drew ?_))); (case side2 => exact HC0.out); (case side3 => repeat (first | exact HR1.out | (with_reducible refine Kd.C_alloc ?_ _) | (with_reducible refine Kd.C_drewN ?_ _) | (with_reducible refine Kd.C_drew ?_))); (case side4 => exact HC1.out); rintro e w' ⟨rfl, ⟨nd, rfl⟩⟩; refine ⟨_, rfl, ?_⟩) | ((with_reducible refine gate_callee (f := 33) rfl ?_); refine goesL_ (some 53) rfl rfl Try.func33 (by kernel_rfl) rfl #[.slice A0 l0.length c0] rfl (by (try simp only [List.map_toArray, List.map_cons, List.map_nil]); first | done | rfl | (simp only [List.length_drop, List.length_take]; rfl)) ?_; (with_reducible refine (spec_DrawSwapCircle.calls k _ _ l0 t818 t819 _ ?side1 ?side2 A5.out).mono ?_); (case side1 => repeat (first | exact HR0.out | (with_reducible refine Kd.C_alloc ?_ _) | (with_reducible refine Kd.C_drewN ?_ _) | (with_reducible refine Kd.C_drew ?_))); (case side2 => exact HC0.out); rintro e w11 ⟨v820, rfl, ho0, hb⟩; refine ⟨_, rfl, ?_⟩; have n0_ := Aside0.mk (Kd.R_lower ho0 (below_size (by repeat (first | (with_reducible first | exact HB.out | apply below_alloc | apply pw_below_drewN | apply below_drew1) | exact HB.out)))); have n1_ := Aside0.mk (below_step (by repeat (first | (with_reducible first | exact HB.out | apply below_alloc | apply pw_below_drewN | apply below_drew1) | exact HB.out)) hb); clear HB; have HO821 := n0_; have HB := n1_; clear n0_ n1_; (try clear hb); (try clear hb2); (try clear hk); (try clear hi); (try clear ho0); obtain ⟨Ao12, co12, eo12⟩ := Kd.R_slice HO821.out; subst eo12) | ((with_reducible refine gate_callee (f := 34) rfl ?_); refine goesL_ (some 59) rfl rfl Try.func34 (by kernel_rfl) rfl #[.slice Ao12 t818.length co12, .int .i64 t819] rfl (by (try simp only [List.map_toArray, List.map_cons, List.map_nil]); first | done | rfl | (simp only [List.length_drop, List.length_take]; rfl)) ?_; (with_reducible refine (impl_SwapCircle.calls k _ _ t818 t819 t822 t823 _ ?side1 ?side2 A6.out).mono ?_); (case side1 => repeat (first | exact (Kd.R_reads' HO821.out).2.2 | (with_reducible refine Kd.C_alloc ?_ _) | (with_reducible refine Kd.C_drewN ?_ _) | (with_reducible refine Kd.C_drew ?_))); (case side2 => exact (Kd.R_reads' HO821.out).2.1); rintro e w13 ⟨v824, rfl, ho0, hb⟩; refine ⟨_, rfl, ?_⟩; have n0_ := Aside0.mk (Kd.R_elder' (by (with_reducible repeat (first | apply Kd.R_alloc | apply Kd.R_drewN | apply Kd.R_drew)); exact HO821.out) (Kd.R_base ho0) hb); have n1_ := Aside0.mk (Kd.R_lower (Kd.R_new' ho0 (Kd.R_lt (by (with_reducible repeat (first | apply Kd.R_alloc | apply Kd.R_drewN | apply Kd.R_drew)); exact HO821.out))) (below_size (by repeat (first | (with_reducible first | exact HB.out | apply below_alloc | apply pw_below_drewN | apply below_drew1) | exact HB.out)))); have n2_ := Aside0.mk (below_step (by repeat (first | (with_reducible first | exact HB.out | apply below_alloc | apply pw_below_drewN | apply below_drew1) | exact HB.out)) hb); clear HO821; clear HB; have HO821 := n0_; have HO825 := n1_; have HB := n2_; clear n0_ n1_ n2_; (try clear hb); (try clear hb2); (try clear hk); (try clear hi); (try clear ho0)) | ((with_reducible refine gate_callee (f := 35) rfl ?_); refine goesL_ (some 65) rfl rfl Try.func35 (by kernel_rfl) rfl #[.slice Ao12 t818.length co12, .int .i64 t819] rfl (by (try simp only [List.map_toArray, List.map_cons, List.map_nil]); first | done | rfl | (simp only [List.length_drop, List.length_take]; rfl)) ?_; (with_reducible refine (spec_SwapCircle.calls k _ _ t818 t819 t826 t827 _ ?side1 ?side2 A7.out).mono ?_); (case side1 => repeat (first | exact (Kd.R_reads' HO821.out).2.2 | (with_reducible refine Kd.C_alloc ?_ _) | (with_reducible refine Kd.C_drewN ?_ _) | (with_reducible refine Kd.C_drew ?_))); (case side2 => exact (Kd.R_reads' HO821.out).2.1); rintro e w14 ⟨v828, rfl, ho0, hb⟩; refine ⟨_, rfl, ?_⟩; have n0_ := Aside0.mk (Kd.R_elder' (by (with_reducible repeat (first | apply Kd.R_alloc | apply Kd.R_drewN | apply Kd.R_drew)); exact HO821.out) (Kd.R_base ho0) hb); have n1_ := Aside0.mk (Kd.R_elder' (by (with_reducible repeat (first | apply Kd.R_alloc | apply Kd.R_drewN | apply Kd.R_drew)); exact HO825.out) (Kd.R_base ho0) hb); have n2_ := Aside0.mk (Kd.R_lower (Kd.R_new' (Kd.R_new' ho0 (Kd.R_lt (by (with_reducible repeat (first | apply Kd.R_alloc | apply Kd.R_drewN | apply Kd.R_drew)); exact HO821.out))) (Kd.R_lt (by (with_reducible repeat (first | apply Kd.R_alloc | apply Kd.R_drewN | apply Kd.R_drew)); exact HO825.out))) (below_size (by repeat (first | (with_reducible first | exact HB.out | apply below_alloc | apply pw_below_drewN | apply below_drew1) | exact HB.out)))); have n3_ := Aside0.mk (below_step (by repeat (first | (with_reducible first | exact HB.out | apply below_alloc | apply pw_below_drewN | apply below_drew1) | exact HB.out)) hb); clear HO821; clear HO825; clear HB; have HO821 := n0_; have HO825 := n1_; have HO829 := n2_; have HB := n3_; clear n0_ n1_ n2_ n3_; (try clear hb); (try clear hb2); (try clear hk); (try clear hi); (try clear ho0)) | ((with_reducible refine gate_callee (f := 36) rfl ?_); refine goesL_ (some 70) rfl rfl Try.func36 (by kernel_rfl) rfl #[.slice Ao12 t818.length co12] rfl (by (try simp only [List.map_toArray, List.map_cons, List.map_nil]); first | done | rfl | (simp only [List.length_drop, List.length_take]; rfl)) ?_; (with_reducible refine (impl_IsConfig.calls k _ _ t818 t830 t831 _ ?side1 ?side2 A8.out).mono ?_); (case side1 => repeat (first | exact (Kd.R_reads' HO821.out).2.2 | (with_reducible refine Kd.C_alloc ?_ _) | (with_reducible refine Kd.C_drewN ?_ _) | (with_reducible refine Kd.C_drew ?_))); (case side2 => exact (Kd.R_reads' HO821.out).2.1); rintro e w15 ⟨rfl, hb⟩; refine ⟨_, rfl, ?_⟩; have n0_ := Aside0.mk (Kd.R_below (by (with_reducible repeat (first | apply Kd.R_alloc | apply Kd.R_drewN | apply Kd.R_drew)); exact HO821.out) hb); have n1_ := Aside0.mk (Kd.R_below (by (with_reducible repeat (first | apply Kd.R_alloc | apply Kd.R_drewN | apply Kd.R_drew)); exact HO825.out) hb); have n2_ := Aside0.mk (Kd.R_below (by (with_reducible repeat (first | apply Kd.R_alloc | apply Kd.R_drewN | apply Kd.R_drew)); exact HO829.out) hb); have n3_ := Aside0.mk (below_step (by repeat (first | (with_reducible first | exact HB.out | apply below_alloc | apply pw_below_drewN | apply below_drew1) | exact HB.out)) hb); clear HO821; clear HO825; clear HO829; clear HB; have HO821 := n0_; have HO825 := n1_; have HO829 := n2_; have HB := n3_; clear n0_ n1_ n2_ n3_; (try clear hb); (try clear hb2); (try clear hk); (try clear hi)) | ((with_reducible refine gate_callee (f := 37) rfl ?_); refine goesL_ (some 75) rfl rfl Try.func37 (by kernel_rfl) rfl #[.slice Ao12 t818.length co12] rfl (by (try simp only [List.map_toArray, List.map_cons, List.map_nil]); first | done | rfl | (simp only [List.length_drop, List.length_take]; rfl)) ?_; (with_reducible refine (spec_IsConfig.calls k _ _ t818 t832 t833 _ ?side1 ?side2 A9.out).mono ?_); (case side1 => repeat (first | exact (Kd.R_reads' HO821.out).2.2 | (with_reducible refine Kd.C_alloc ?_ _) | (with_reducible refine Kd.C_drewN ?_ _) | (with_reducible refine Kd.C_drew ?_))); (case side2 => exact (Kd.R_reads' HO821.out).2.1); rintro e w16 ⟨rfl, hb⟩; refine ⟨_, rfl, ?_⟩; have n0_ := Aside0.mk (Kd.R_below (by (with_reducible repeat (first | apply Kd.R_alloc | apply Kd.R_drewN | apply Kd.R_drew)); exact HO821.out) hb); have n1_ := Aside0.mk (Kd.R_below (by (with_reducible repeat (first | apply Kd.R_alloc | apply Kd.R_drewN | apply Kd.R_drew)); exact HO825.out) hb); have n2_ := Aside0.mk (Kd.R_below (by (with_reducible repeat (first | apply Kd.R_alloc | apply Kd.R_drewN | apply Kd.R_drew)); exact HO829.out) hb); have n3_ := Aside0.mk (below_step (by repeat (first | (with_reducible first | exact HB.out | apply below_alloc | apply pw_below_drewN | apply below_drew1) | exact HB.out)) hb); clear HO821; clear HO825; clear HO829; clear HB; have HO821 := n0_; have HO825 := n1_; have HO829 := n2_; have HB := n3_; clear n0_ n1_ n2_ n3_; (try clear hb); (try clear hb2); (try clear hk); (try clear hi)))
  (try simp only [Act.put, List.setIfInBounds_toArray, List.set_cons_zero, List.set_cons_succ])
  go_cut [103] (fun v103 wc => ∃ (kq : Nat) (x103_9 : Bool), v103 = .bool x103_9 ∧ Aside0 (laws_FnConfigurations.j0 kq l1 t818 t819 t822 t823 t830 x103_9 = some r) ∧ Aside0 (kq ≤ k) ∧ Aside0 (Kd.R k38 38 wc w.heap.size (fun k_ => some k_ ≠ (v824 : Value).ownBlock) (.slice Ao12 t818.length co12) t818) ∧ Aside0 (Kd.R k38 38 wc w.heap.size (fun k_ => some k_ ≠ ((.slice Ao12 t818.length co12) : Value).ownBlock) v824 t822) ∧ Aside0 (Below w.heap.size w wc))
  case first => as_aux_lemma =>
   have H := HC10.out
   clear HC10
   by_cases c17 : (t823 != t827) = true
   ·
    rw [if_pos c17] at H
    have c17b0 : (t823 != t827) = true := c17
    (try (have c17b1 : decide (t823 = t827) = false := by simpa using c17))
    (try (have c17b2 : (t823 == t827) = false := by simpa using c17))
    (try (have c17b3 : ¬ (t823 = t827) := by simpa using c17))
    clear c17
    (first | rw [c17b0] | (simp only [i64_w, i32_w]; rw [c17b0]) | rw [c17b1] | skip)
    have H' := Aside0.mk H
    clear H
    go_wp2
    go_meet
    case rel => exact ⟨_, (true), (by first | rfl | (simp; done) | (simp [*]; done)), H', ⟨by first | omega | exact Nat.le_refl _⟩, ⟨by (with_reducible repeat (first | apply Kd.R_alloc | apply Kd.R_drewN | apply Kd.R_drew)); exact Kd.R_mono HO821.out (fun _ hk => hk.1.2)⟩, ⟨by (with_reducible repeat (first | apply Kd.R_alloc | apply Kd.R_drewN | apply Kd.R_drew)); exact Kd.R_mono HO825.out (fun _ hk => hk.1.2)⟩, ⟨by repeat (first | (with_reducible first | exact HB.out | apply below_alloc | apply pw_below_drewN | apply below_drew1) | exact HB.out)⟩⟩
   ·
    rw [if_neg c17] at H
    have c17b0 : (t823 != t827) = false := by simpa using c17
    (try (have c17b1 : decide (t823 = t827) = true := by simpa using c17))
    (try (have c17b2 : (t823 == t827) = true := by simpa using c17))
    clear c17
    (first | rw [c17b0] | (simp only [i64_w, i32_w]; rw [c17b0]) | rw [c17b1] | skip)
    replace H := Option.bind_eq_some_iff.mp H
    obtain ⟨t834, A180, H⟩ := H
    replace H : (if t834 = true then (if (t831 != t833) = true then (laws_FnConfigurations.j0 k l1 t818 t819 t822 t823 t830 true) else (if (t830 != t832) = true then (laws_FnConfigurations.j0 k l1 t818 t819 t822 t823 t830 true) else (if t823 = true then (laws_FnConfigurations.j0 k l1 t818 t819 t822 t823 t830 (!t830)) else (laws_FnConfigurations.j0 k l1 t818 t819 t822 t823 t830 false)))) else (laws_FnConfigurations.j0 k l1 t818 t819 t822 t823 t830 true)) = some r := H
    have A18 := Aside0.mk A180
    clear A180
    by_cases c19 : t834 = true
    ·
     subst c19
     have H1 : (if (t831 != t833) = true then (laws_FnConfigurations.j0 k l1 t818 t819 t822 t823 t830 true) else (if (t830 != t832) = true then (laws_FnConfigurations.j0 k l1 t818 t819 t822 t823 t830 true) else (if t823 = true then (laws_FnConfigurations.j0 k l1 t818 t819 t822 t823 t830 (!t830)) else (laws_FnConfigurations.j0 k l1 t818 t819 t822 t823 t830 false)))) = some r := by rw [if_pos rfl] at H; exact H
     clear H
     have H := H1
     clear H1
     by_cases c20 : (t831 != t833) = true
     ·
      rw [if_pos c20] at H
      have c20b0 : (t831 != t833) = true := c20
      (try (have c20b1 : decide (t831 = t833) = false := by simpa using c20))
      (try (have c20b2 : (t831 == t833) = false := by simpa using c20))
      (try (have c20b3 : ¬ (t831 = t833) := by simpa using c20))
      clear c20
      have H' := Aside0.mk H
      clear H
      obtain ⟨Ao21, co21, eo21⟩ := Kd.R_slice HO825.out
      subst eo21
      obtain ⟨Ao22, co22, eo22⟩ := Kd.R_slice HO829.out
      subst eo22
      go_wp2_with (first | (go_at_call 38; (with_reducible refine (laws_dCircles.calls k _ _ t822 _ _ t826 true _ ?side1 ?side2 ?side3 ?side4 A18.out).mono ?_); (case side1 => repeat (first | exact (Kd.R_reads' HO825.out).2.2 | (with_reducible refine Kd.C_alloc ?_ _) | (with_reducible refine Kd.C_drewN ?_ _) | (with_reducible refine Kd.C_drew ?_))); (case side2 => exact (Kd.R_reads' HO825.out).2.1); (case side3 => repeat (first | exact (Kd.R_reads' HO829.out).2.2 | (with_reducible refine Kd.C_alloc ?_ _) | (with_reducible refine Kd.C_drewN ?_ _) | (with_reducible refine Kd.C_drew ?_))); (case side4 => exact (Kd.R_reads' HO829.out).2.1); rintro e w' ⟨rfl, ⟨nd, rfl⟩⟩))
      go_meet
      case rel => exact ⟨_, (true), (by first | rfl | (simp; done) | (simp [*]; done)), H', ⟨by first | omega | exact Nat.le_refl _⟩, ⟨by (with_reducible repeat (first | apply Kd.R_alloc | apply Kd.R_drewN | apply Kd.R_drew)); exact Kd.R_mono HO821.out (fun _ hk => hk.1.2)⟩, ⟨by (with_reducible repeat (first | apply Kd.R_alloc | apply Kd.R_drewN | apply Kd.R_drew)); exact Kd.R_mono HO825.out (fun _ hk => hk.1.2)⟩, ⟨by repeat (first | (with_reducible first | exact HB.out | apply below_alloc | apply pw_below_drewN | apply below_drew1) | exact HB.out)⟩⟩
     ·
      rw [if_neg c20] at H
      have c20b0 : (t831 != t833) = false := by simpa using c20
      (try (have c20b1 : decide (t831 = t833) = true := by simpa using c20))
      (try (have c20b2 : (t831 == t833) = true := by simpa using c20))
      clear c20
      by_cases c23 : (t830 != t832) = true
      ·
       rw [if_pos c23] at H
       have c23b0 : (t830 != t832) = true := c23
       (try (have c23b1 : decide (t830 = t832) = false := by simpa using c23))
       (try (have c23b2 : (t830 == t832) = false := by simpa using c23))
       (try (have c23b3 : ¬ (t830 = t832) := by simpa using c23))
       clear c23
       have H' := Aside0.mk H
       clear H
       obtain ⟨Ao24, co24, eo24⟩ := Kd.R_slice HO825.out
       subst eo24
       obtain ⟨Ao25, co25, eo25⟩ := Kd.R_slice HO829.out
       subst eo25
       go_wp2_with (first | (go_at_call 38; (with_reducible refine (laws_dCircles.calls k _ _ t822 _ _ t826 true _ ?side1 ?side2 ?side3 ?side4 A18.out).mono ?_); (case side1 => repeat (first | exact (Kd.R_reads' HO825.out).2.2 | (with_reducible refine Kd.C_alloc ?_ _) | (with_reducible refine Kd.C_drewN ?_ _) | (with_reducible refine Kd.C_drew ?_))); (case side2 => exact (Kd.R_reads' HO825.out).2.1); (case side3 => repeat (first | exact (Kd.R_reads' HO829.out).2.2 | (with_reducible refine Kd.C_alloc ?_ _) | (with_reducible refine Kd.C_drewN ?_ _) | (with_reducible refine Kd.C_drew ?_))); (case side4 => exact (Kd.R_reads' HO829.out).2.1); rintro e w' ⟨rfl, ⟨nd, rfl⟩⟩))
       go_meet
       case rel => exact ⟨_, (true), (by first | rfl | (simp; done) | (simp [*]; done)), H', ⟨by first | omega | exact Nat.le_refl _⟩, ⟨by (with_reducible repeat (first | apply Kd.R_alloc | apply Kd.R_drewN | apply Kd.R_drew)); exact Kd.R_mono HO821.out (fun _ hk => hk.1.2)⟩, ⟨by (with_reducible repeat (first | apply Kd.R_alloc | apply Kd.R_drewN | apply Kd.R_drew)); exact Kd.R_mono HO825.out (fun _ hk => hk.1.2)⟩, ⟨by repeat (first | (with_reducible first | exact HB.out | apply below_alloc | apply pw_below_drewN | apply below_drew1) | exact HB.out)⟩⟩
      ·
       rw [if_neg c23] at H
       have c23b0 : (t830 != t832) = false := by simpa using c23
       (try (have c23b1 : decide (t830 = t832) = true := by simpa using c23))
       (try (have c23b2 : (t830 == t832) = true := by simpa using c23))
       clear c23
       by_cases c26 : t823 = true
       ·
        subst c26
        have H1 : (laws_FnConfigurations.j0 k l1 t818 t819 t822 true t830 (!t830)) = some r := by rw [if_pos rfl] at H; exact H
        clear H
        have H := H1
        clear H1
        have H' := Aside0.mk H
        clear H
        obtain ⟨Ao27, co27, eo27⟩ := Kd.R_slice HO825.out
        subst eo27
        obtain ⟨Ao28, co28, eo28⟩ := Kd.R_slice HO829.out
        subst eo28
        go_wp2_with (first | (go_at_call 38; (with_reducible refine (laws_dCircles.calls k _ _ t822 _ _ t826 true _ ?side1 ?side2 ?side3 ?side4 A18.out).mono ?_); (case side1 => repeat (first | exact (Kd.R_reads' HO825.out).2.2 | (with_reducible refine Kd.C_alloc ?_ _) | (with_reducible refine Kd.C_drewN ?_ _) | (with_reducible refine Kd.C_drew ?_))); (case side2 => exact (Kd.R_reads' HO825.out).2.1); (case side3 => repeat (first | exact (Kd.R_reads' HO829.out).2.2 | (with_reducible refine Kd.C_alloc ?_ _) | (with_reducible refine Kd.C_drewN ?_ _) | (with_reducible refine Kd.C_drew ?_))); (case side4 => exact (Kd.R_reads' HO829.out).2.1); rintro e w' ⟨rfl, ⟨nd, rfl⟩⟩))
        go_meet
        case rel => exact ⟨_, (!t830), (by first | rfl | (simp; done) | (simp [*]; done)), H', ⟨by first | omega | exact Nat.le_refl _⟩, ⟨by (with_reducible repeat (first | apply Kd.R_alloc | apply Kd.R_drewN | apply Kd.R_drew)); exact Kd.R_mono HO821.out (fun _ hk => hk.1.2)⟩, ⟨by (with_reducible repeat (first | apply Kd.R_alloc | apply Kd.R_drewN | apply Kd.R_drew)); exact Kd.R_mono HO825.out (fun _ hk => hk.1.2)⟩, ⟨by repeat (first | (with_reducible first | exact HB.out | apply below_alloc | apply pw_below_drewN | apply below_drew1) | exact HB.out)⟩⟩
       ·
        replace c26 := Bool.eq_false_iff.mpr c26
        subst c26
        have H1 : (laws_FnConfigurations.j0 k l1 t818 t819 t822 false t830 false) = some r := by rw [if_neg (show ¬ (false = true) by decide)] at H; exact H
        clear H
        have H := H1
        clear H1
        have H' := Aside0.mk H
        clear H
        obtain ⟨Ao29, co29, eo29⟩ := Kd.R_slice HO825.out
        subst eo29
        obtain ⟨Ao30, co30, eo30⟩ := Kd.R_slice HO829.out
        subst eo30
        go_wp2_with (first | (go_at_call 38; (with_reducible refine (laws_dCircles.calls k _ _ t822 _ _ t826 true _ ?side1 ?side2 ?side3 ?side4 A18.out).mono ?_); (case side1 => repeat (first | exact (Kd.R_reads' HO825.out).2.2 | (with_reducible refine Kd.C_alloc ?_ _) | (with_reducible refine Kd.C_drewN ?_ _) | (with_reducible refine Kd.C_drew ?_))); (case side2 => exact (Kd.R_reads' HO825.out).2.1); (case side3 => repeat (first | exact (Kd.R_reads' HO829.out).2.2 | (with_reducible refine Kd.C_alloc ?_ _) | (with_reducible refine Kd.C_drewN ?_ _) | (with_reducible refine Kd.C_drew ?_))); (case side4 => exact (Kd.R_reads' HO829.out).2.1); rintro e w' ⟨rfl, ⟨nd, rfl⟩⟩))
        go_meet
        case rel => exact ⟨_, (false), (by first | rfl | (simp; done) | (simp [*]; done)), H', ⟨by first | omega | exact Nat.le_refl _⟩, ⟨by (with_reducible repeat (first | apply Kd.R_alloc | apply Kd.R_drewN | apply Kd.R_drew)); exact Kd.R_mono HO821.out (fun _ hk => hk.1.2)⟩, ⟨by (with_reducible repeat (first | apply Kd.R_alloc | apply Kd.R_drewN | apply Kd.R_drew)); exact Kd.R_mono HO825.out (fun _ hk => hk.1.2)⟩, ⟨by repeat (first | (with_reducible first | exact HB.out | apply below_alloc | apply pw_below_drewN | apply below_drew1) | exact HB.out)⟩⟩
    ·
     replace c19 := Bool.eq_false_iff.mpr c19
     subst c19
     have H1 : (laws_FnConfigurations.j0 k l1 t818 t819 t822 t823 t830 true) = some r := by rw [if_neg (show ¬ (false = true) by decide)] at H; exact H
     clear H
     have H := H1
     clear H1
     have H' := Aside0.mk H
     clear H
     obtain ⟨Ao31, co31, eo31⟩ := Kd.R_slice HO825.out
     subst eo31
     obtain ⟨Ao32, co32, eo32⟩ := Kd.R_slice HO829.out
     subst eo32
     go_wp2_with (first | (go_at_call 38; (with_reducible refine (laws_dCircles.calls k _ _ t822 _ _ t826 false _ ?side1 ?side2 ?side3 ?side4 A18.out).mono ?_); (case side1 => repeat (first | exact (Kd.R_reads' HO825.out).2.2 | (with_reducible refine Kd.C_alloc ?_ _) | (with_reducible refine Kd.C_drewN ?_ _) | (with_reducible refine Kd.C_drew ?_))); (case side2 => exact (Kd.R_reads' HO825.out).2.1); (case side3 => repeat (first | exact (Kd.R_reads' HO829.out).2.2 | (with_reducible refine Kd.C_alloc ?_ _) | (with_reducible refine Kd.C_drewN ?_ _) | (with_reducible refine Kd.C_drew ?_))); (case side4 => exact (Kd.R_reads' HO829.out).2.1); rintro e w' ⟨rfl, ⟨nd, rfl⟩⟩))
     go_meet
     case rel => exact ⟨_, (true), (by first | rfl | (simp; done) | (simp [*]; done)), H', ⟨by first | omega | exact Nat.le_refl _⟩, ⟨by (with_reducible repeat (first | apply Kd.R_alloc | apply Kd.R_drewN | apply Kd.R_drew)); exact Kd.R_mono HO821.out (fun _ hk => hk.1.2)⟩, ⟨by (with_reducible repeat (first | apply Kd.R_alloc | apply Kd.R_drewN | apply Kd.R_drew)); exact Kd.R_mono HO825.out (fun _ hk => hk.1.2)⟩, ⟨by repeat (first | (with_reducible first | exact HB.out | apply below_alloc | apply pw_below_drewN | apply below_drew1) | exact HB.out)⟩⟩
  case rest =>
   clear HC10
   try clear c1
   try clear c2
   try clear p2
   try clear c3
   try clear c4
   try clear c5
   try clear c6
   try clear c17
   try clear c17b0
   try clear c17b1
   try clear c17b2
   try clear c19
   try clear c20
   try clear c20b0
   try clear c20b1
   try clear c20b2
   try clear c23
   try clear c23b0
   try clear c23b1
   try clear c23b2
   try clear c26
   obtain ⟨kq, x103_9, rfl, HA, HJ9, HO_5, HO_7, HB⟩ := hcut
   cases kq with
   | zero => exact absurd HA.out (by simp [laws_FnConfigurations.j0])
   | succ kj9 =>
    have H := HA.out
    clear HA
    simp only [laws_FnConfigurations.j0] at H
    by_cases c33 : x103_9 = true
    ·
     subst c33
     have H1 : (some false) = some r := by rw [if_pos rfl] at H; exact H
     clear H
     have H := H1
     clear H1
     obtain rfl := Option.some.inj H
     go_wp2
     go_ret
     exact ⟨by first | rfl | (simp [errW_none, errW_some] <;> rfl) | (simp [*, errW_none, errW_some] <;> rfl), by repeat (first | (with_reducible first | exact HB.out | apply below_alloc | apply pw_below_drewN | apply below_drew1) | exact HB.out)⟩
    ·
     replace c33 := Bool.eq_false_iff.mpr c33
     subst c33
     have H1 : ((impl_CurvaturesOf.f kj9 t818).bind fun bt835 => ((spec_CurvaturesOf.f kj9 t818).bind fun bt839 => (if (bt835.2 != bt839.2) = true then (laws_FnConfigurations.j1 kj9 l1 t818 t819 t822 t823 bt835.1 true) else ((laws_dSame.f kj9 bt835.1 bt839.1).bind fun t843 => (if t843 = true then (laws_FnConfigurations.j1 kj9 l1 t818 t819 t822 t823 bt835.1 (bt835.2 != t830)) else (laws_FnConfigurations.j1 kj9 l1 t818 t819 t822 t823 bt835.1 true)))))) = some r := by rw [if_neg (show ¬ (false = true) by decide)] at H; exact H
     clear H
     have H := H1
     clear H1
     replace H := Option.bind_eq_some_iff.mp H
     obtain ⟨⟨t835, t836⟩, A340, H⟩ := H
     replace H : ((spec_CurvaturesOf.f kj9 t818).bind fun bt839 => (if (t836 != bt839.2) = true then (laws_FnConfigurations.j1 kj9 l1 t818 t819 t822 t823 t835 true) else ((laws_dSame.f kj9 t835 bt839.1).bind fun t843 => (if t843 = true then (laws_FnConfigurations.j1 kj9 l1 t818 t819 t822 t823 t835 (t836 != t830)) else (laws_FnConfigurations.j1 kj9 l1 t818 t819 t822 t823 t835 true))))) = some r := H
     have A34 := Aside0.mk A340
     clear A340
     replace H := Option.bind_eq_some_iff.mp H
     obtain ⟨⟨t839, t840⟩, A350, H⟩ := H
     replace H : (if (t836 != t840) = true then (laws_FnConfigurations.j1 kj9 l1 t818 t819 t822 t823 t835 true) else ((laws_dSame.f kj9 t835 t839).bind fun t843 => (if t843 = true then (laws_FnConfigurations.j1 kj9 l1 t818 t819 t822 t823 t835 (t836 != t830)) else (laws_FnConfigurations.j1 kj9 l1 t818 t819 t822 t823 t835 true)))) = some r := H
     have A35 := Aside0.mk A350
     clear A350
     have HC36 := Aside0.mk H
     clear H
     go_upto_region 12 with (first | ((with_reducible refine gate_callee (f := 39) rfl ?_); refine goesL_ (some 106) rfl rfl Try.func39 (by kernel_rfl) rfl #[.slice Ao12 t818.length co12] rfl (by (try simp only [List.map_toArray, List.map_cons, List.map_nil]); first | done | rfl | (simp only [List.length_drop, List.length_take]; rfl)) ?_; (with_reducible refine (impl_CurvaturesOf.calls kj9 _ _ t818 t835 t836 _ ?side1 ?side2 A34.out).mono ?_); (case side1 => repeat (first | exact (Kd.R_reads' HO_5.out).2.2 | (with_reducible refine Kd.C_alloc ?_ _) | (with_reducible refine Kd.C_drewN ?_ _) | (with_reducible refine Kd.C_drew ?_))); (case side2 => exact (Kd.R_reads' HO_5.out).2.1); rintro e w37 ⟨v837, rfl, ho0, hb⟩; refine ⟨_, rfl, ?_⟩; have n0_ := Aside0.mk (Kd.R_below (by (with_reducible repeat (first | apply Kd.R_alloc | apply Kd.R_drewN | apply Kd.R_drew)); exact HO_5.out) hb); have n1_ := Aside0.mk (Kd.R_below (by (with_reducible repeat (first | apply Kd.R_alloc | apply Kd.R_drewN | apply Kd.R_drew)); exact HO_7.out) hb); have n2_ := Aside0.mk (Kd.R_lower ho0 (below_size (by repeat (first | (with_reducible first | exact HB.out | apply below_alloc | apply pw_below_drewN | apply below_drew1) | exact HB.out)))); have n3_ := Aside0.mk (below_step (by repeat (first | (with_reducible first | exact HB.out | apply below_alloc | apply pw_below_drewN | apply below_drew1) | exact HB.out)) hb); clear HO_5; clear HO_7; clear HB; have HO_5 := n0_; have HO_7 := n1_; have HO838 := n2_; have HB := n3_; clear n0_ n1_ n2_ n3_; (try clear hb); (try clear hb2); (try clear hk); (try clear hi); (try clear ho0)) | ((with_reducible refine gate_callee (f := 40) rfl ?_); refine goesL_ (some 111) rfl rfl Try.func40 (by kernel_rfl) rfl #[.slice Ao12 t818.length co12] rfl (by (try simp only [List.map_toArray, List.map_cons, List.map_nil]); first | done | rfl | (simp only [List.length_drop, List.length_take]; rfl)) ?_; (with_reducible refine (spec_CurvaturesOf.calls kj9 _ _ t818 t839 t840 _ ?side1 ?side2 A35.out).mono ?_); (case side1 => repeat (first | exact (Kd.R_reads' HO_5.out).2.2 | (with_reducible refine Kd.C_alloc ?_ _) | (with_reducible refine Kd.C_drewN ?_ _) | (with_reducible refine Kd.C_drew ?_))); (case side2 => exact (Kd.R_reads' HO_5.out).2.1); rintro e w38 ⟨v841, rfl, ho0, hb⟩; refine ⟨_, rfl, ?_⟩; have n0_ := Aside0.mk (Kd.R_below (by (with_reducible repeat (first | apply Kd.R_alloc | apply Kd.R_drewN | apply Kd.R_drew)); exact HO_5.out) hb); have n1_ := Aside0.mk (Kd.R_below (by (with_reducible repeat (first | apply Kd.R_alloc | apply Kd.R_drewN | apply Kd.R_drew)); exact HO_7.out) hb); have n2_ := Aside0.mk (Kd.R_elder' (by (with_reducible repeat (first | apply Kd.R_alloc | apply Kd.R_drewN | apply Kd.R_drew)); exact HO838.out) (Kd.R_base ho0) hb); have n3_ := Aside0.mk (Kd.R_lower (Kd.R_new' ho0 (Kd.R_lt (by (with_reducible repeat (first | apply Kd.R_alloc | apply Kd.R_drewN | apply Kd.R_drew)); exact HO838.out))) (below_size (by repeat (first | (with_reducible first | exact HB.out | apply below_alloc | apply pw_below_drewN | apply below_drew1) | exact HB.out)))); have n4_ := Aside0.mk (below_step (by repeat (first | (with_reducible first | exact HB.out | apply below_alloc | apply pw_below_drewN | apply below_drew1) | exact HB.out)) hb); clear HO_5; clear HO_7; clear HO838; clear HB; have HO_5 := n0_; have HO_7 := n1_; have HO838 := n2_; have HO842 := n3_; have HB := n4_; clear n0_ n1_ n2_ n3_ n4_; (try clear hb); (try clear hb2); (try clear hk); (try clear hi); (try clear ho0)))
     (try simp only [Act.put, List.setIfInBounds_toArray, List.set_cons_zero, List.set_cons_succ])
     go_cut [127] (fun v127 wc => ∃ (kq : Nat) (x127_35 : Bool), v127 = .bool x127_35 ∧ Aside0 (laws_FnConfigurations.j1 kq l1 t818 t819 t822 t823 t835 x127_35 = some r) ∧ Aside0 (kq ≤ kj9) ∧ Aside0 (Kd.R k38 38 wc w.heap.size (fun k_ => some k_ ≠ (v824 : Value).ownBlock) (.slice Ao12 t818.length co12) t818) ∧ Aside0 (Kd.R k38 38 wc w.heap.size (fun k_ => some k_ ≠ ((.slice Ao12 t818.length co12) : Value).ownBlock) v824 t822) ∧ Aside0 (Kd.R (Kd.int .i64) 3 wc w.heap.size (fun _ => True) v837 t835) ∧ Aside0 (Below w.heap.size w wc))
     case first => as_aux_lemma =>
      have H := HC36.out
      clear HC36
      by_cases c39 : (t836 != t840) = true
      ·
       rw [if_pos c39] at H
       have c39b0 : (t836 != t840) = true := c39
       (try (have c39b1 : decide (t836 = t840) = false := by simpa using c39))
       (try (have c39b2 : (t836 == t840) = false := by simpa using c39))
       (try (have c39b3 : ¬ (t836 = t840) := by simpa using c39))
       clear c39
       (first | rw [c39b0] | (simp only [i64_w, i32_w]; rw [c39b0]) | rw [c39b1] | skip)
       have H' := Aside0.mk H
       clear H
       go_wp2
       go_meet
       case rel => exact ⟨_, (true), (by first | rfl | (simp; done) | (simp [*]; done)), H', ⟨by have := HJ9.out; first | omega | exact Nat.le_refl _⟩, ⟨by (with_reducible repeat (first | apply Kd.R_alloc | apply Kd.R_drewN | apply Kd.R_drew)); exact HO_5.out⟩, ⟨by (with_reducible repeat (first | apply Kd.R_alloc | apply Kd.R_drewN | apply Kd.R_drew)); exact HO_7.out⟩, ⟨by (with_reducible repeat (first | apply Kd.R_alloc | apply Kd.R_drewN | apply Kd.R_drew)); exact Kd.R_mono HO838.out (fun _ hk => trivial)⟩, ⟨by repeat (first | (with_reducible first | exact HB.out | apply below_alloc | apply pw_below_drewN | apply below_drew1) | exact HB.out)⟩⟩
      ·
       rw [if_neg c39] at H
       have c39b0 : (t836 != t840) = false := by simpa using c39
       (try (have c39b1 : decide (t836 = t840) = true := by simpa using c39))
       (try (have c39b2 : (t836 == t840) = true := by simpa using c39))
       clear c39
       (first | rw [c39b0] | (simp only [i64_w, i32_w]; rw [c39b0]) | rw [c39b1] | skip)
       replace H := Option.bind_eq_some_iff.mp H
       obtain ⟨t843, A400, H⟩ := H
       replace H : (if t843 = true then (laws_FnConfigurations.j1 kj9 l1 t818 t819 t822 t823 t835 (t836 != t830)) else (laws_FnConfigurations.j1 kj9 l1 t818 t819 t822 t823 t835 true)) = some r := H
       have A40 := Aside0.mk A400
       clear A400
       by_cases c41 : t843 = true
       ·
        subst c41
        have H1 : (laws_FnConfigurations.j1 kj9 l1 t818 t819 t822 t823 t835 (t836 != t830)) = some r := by rw [if_pos rfl] at H; exact H
        clear H
        have H := H1
        clear H1
        have H' := Aside0.mk H
        clear H
        obtain ⟨Ao42, co42, eo42⟩ := Kd.R_slice HO838.out
        subst eo42
        obtain ⟨Ao43, co43, eo43⟩ := Kd.R_slice HO842.out
        subst eo43
        go_wp2_with (first | (go_at_call 14; (with_reducible refine (laws_dSame.calls kj9 _ _ t835 _ _ t839 true _ ?side1 ?side2 ?side3 ?side4 A40.out).mono ?_); (case side1 => repeat (first | exact (Kd.R_reads' HO838.out).2.2 | (with_reducible refine Kd.C_alloc ?_ _) | (with_reducible refine Kd.C_drewN ?_ _) | (with_reducible refine Kd.C_drew ?_))); (case side2 => exact (Kd.R_reads' HO838.out).2.1); (case side3 => repeat (first | exact (Kd.R_reads' HO842.out).2.2 | (with_reducible refine Kd.C_alloc ?_ _) | (with_reducible refine Kd.C_drewN ?_ _) | (with_reducible refine Kd.C_drew ?_))); (case side4 => exact (Kd.R_reads' HO842.out).2.1); rintro e w' ⟨rfl, ⟨nd, rfl⟩⟩))
        go_meet
        case rel => exact ⟨_, ((t836 != t830)), (by first | rfl | (simp; done) | (simp [*]; done)), H', ⟨by have := HJ9.out; first | omega | exact Nat.le_refl _⟩, ⟨by (with_reducible repeat (first | apply Kd.R_alloc | apply Kd.R_drewN | apply Kd.R_drew)); exact HO_5.out⟩, ⟨by (with_reducible repeat (first | apply Kd.R_alloc | apply Kd.R_drewN | apply Kd.R_drew)); exact HO_7.out⟩, ⟨by (with_reducible repeat (first | apply Kd.R_alloc | apply Kd.R_drewN | apply Kd.R_drew)); exact Kd.R_mono HO838.out (fun _ hk => trivial)⟩, ⟨by repeat (first | (with_reducible first | exact HB.out | apply below_alloc | apply pw_below_drewN | apply below_drew1) | exact HB.out)⟩⟩
       ·
        replace c41 := Bool.eq_false_iff.mpr c41
        subst c41
        have H1 : (laws_FnConfigurations.j1 kj9 l1 t818 t819 t822 t823 t835 true) = some r := by rw [if_neg (show ¬ (false = true) by decide)] at H; exact H
        clear H
        have H := H1
        clear H1
        have H' := Aside0.mk H
        clear H
        obtain ⟨Ao44, co44, eo44⟩ := Kd.R_slice HO838.out
        subst eo44
        obtain ⟨Ao45, co45, eo45⟩ := Kd.R_slice HO842.out
        subst eo45
        go_wp2_with (first | (go_at_call 14; (with_reducible refine (laws_dSame.calls kj9 _ _ t835 _ _ t839 false _ ?side1 ?side2 ?side3 ?side4 A40.out).mono ?_); (case side1 => repeat (first | exact (Kd.R_reads' HO838.out).2.2 | (with_reducible refine Kd.C_alloc ?_ _) | (with_reducible refine Kd.C_drewN ?_ _) | (with_reducible refine Kd.C_drew ?_))); (case side2 => exact (Kd.R_reads' HO838.out).2.1); (case side3 => repeat (first | exact (Kd.R_reads' HO842.out).2.2 | (with_reducible refine Kd.C_alloc ?_ _) | (with_reducible refine Kd.C_drewN ?_ _) | (with_reducible refine Kd.C_drew ?_))); (case side4 => exact (Kd.R_reads' HO842.out).2.1); rintro e w' ⟨rfl, ⟨nd, rfl⟩⟩))
        go_meet
        case rel => exact ⟨_, (true), (by first | rfl | (simp; done) | (simp [*]; done)), H', ⟨by have := HJ9.out; first | omega | exact Nat.le_refl _⟩, ⟨by (with_reducible repeat (first | apply Kd.R_alloc | apply Kd.R_drewN | apply Kd.R_drew)); exact HO_5.out⟩, ⟨by (with_reducible repeat (first | apply Kd.R_alloc | apply Kd.R_drewN | apply Kd.R_drew)); exact HO_7.out⟩, ⟨by (with_reducible repeat (first | apply Kd.R_alloc | apply Kd.R_drewN | apply Kd.R_drew)); exact Kd.R_mono HO838.out (fun _ hk => trivial)⟩, ⟨by repeat (first | (with_reducible first | exact HB.out | apply below_alloc | apply pw_below_drewN | apply below_drew1) | exact HB.out)⟩⟩
     case rest =>
      clear HC36
      try clear c1
      try clear c2
      try clear p2
      try clear c3
      try clear c4
      try clear c5
      try clear c6
      try clear c17
      try clear c17b0
      try clear c17b1
      try clear c17b2
      try clear c19
      try clear c20
      try clear c20b0
      try clear c20b1
      try clear c20b2
      try clear c23
      try clear c23b0
      try clear c23b1
      try clear c23b2
      try clear c26
      try clear c33
      try clear c34
      try clear c35
      try clear c36
      try clear c37
      try clear c39
      try clear c39b0
      try clear c39b1
      try clear c39b2
      try clear c40
      try clear c41
      try clear p2
      obtain ⟨kq, x127_35, rfl, HA, HJ35, HO_5, HO_7, HO_15, HB⟩ := hcut
      cases kq with
      | zero => exact absurd HA.out (by simp [laws_FnConfigurations.j1])
      | succ kj35 =>
       have H := HA.out
       clear HA
       simp only [laws_FnConfigurations.j1] at H
       by_cases c46 : x127_35 = true
       ·
        subst c46
        have H1 : (some false) = some r := by rw [if_pos rfl] at H; exact H
        clear H
        have H := H1
        clear H1
        obtain rfl := Option.some.inj H
        go_wp2
        go_ret
        exact ⟨by first | rfl | (simp [errW_none, errW_some] <;> rfl) | (simp [*, errW_none, errW_some] <;> rfl), by repeat (first | (with_reducible first | exact HB.out | apply below_alloc | apply pw_below_drewN | apply below_drew1) | exact HB.out)⟩
       ·
        replace c46 := Bool.eq_false_iff.mpr c46
        subst c46
        have H1 : (if t823 = true then ((impl_IsConfig.f kj35 t822).bind fun bt844 => ((impl_SwapCircle.f kj35 t822 t819).bind fun bt846 => ((impl_CurvaturesOf.f kj35 t822).bind fun bt850 => ((impl_SwapAt.f kj35 t835 t819).bind fun bt854 => (if bt844.2 = true then (if bt844.1 = true then (if bt846.2 = true then ((laws_dCircles.f kj35 bt846.1 t818).bind fun t858 => (if t858 = true then (if bt850.2 = true then (if bt854.2 = true then ((laws_dSame.f kj35 bt854.1 bt850.1).bind fun t859 => (if t859 = true then (laws_FnConfigurations.j2 kj35 l1) else (some false))) else (laws_FnConfigurations.j2 kj35 l1)) else (some false)) else (some false))) else (some false)) else (some false)) else (some false)))))) else (laws_FnConfigurations.j2 kj35 l1)) = some r := by rw [if_neg (show ¬ (false = true) by decide)] at H; exact H
        clear H
        have H := H1
        clear H1
        have HC47 := Aside0.mk H
        clear H
        go_upto_if 128 with (fail)
        go_cut [] (fun wc => ∃ (kq : Nat), Aside0 (laws_FnConfigurations.j2 kq l1 = some r) ∧ Aside0 (kq ≤ kj35) ∧ Aside0 (Below w.heap.size w wc))
        case first => as_aux_lemma =>
         have H := HC47.out
         clear HC47
         by_cases c48 : t823 = true
         ·
          subst c48
          have H1 : ((impl_IsConfig.f kj35 t822).bind fun bt844 => ((impl_SwapCircle.f kj35 t822 t819).bind fun bt846 => ((impl_CurvaturesOf.f kj35 t822).bind fun bt850 => ((impl_SwapAt.f kj35 t835 t819).bind fun bt854 => (if bt844.2 = true then (if bt844.1 = true then (if bt846.2 = true then ((laws_dCircles.f kj35 bt846.1 t818).bind fun t858 => (if t858 = true then (if bt850.2 = true then (if bt854.2 = true then ((laws_dSame.f kj35 bt854.1 bt850.1).bind fun t859 => (if t859 = true then (laws_FnConfigurations.j2 kj35 l1) else (some false))) else (laws_FnConfigurations.j2 kj35 l1)) else (some false)) else (some false))) else (some false)) else (some false)) else (some false)))))) = some r := by rw [if_pos rfl] at H; exact H
          clear H
          have H := H1
          clear H1
          replace H := Option.bind_eq_some_iff.mp H
          obtain ⟨⟨t844, t845⟩, A490, H⟩ := H
          replace H : ((impl_SwapCircle.f kj35 t822 t819).bind fun bt846 => ((impl_CurvaturesOf.f kj35 t822).bind fun bt850 => ((impl_SwapAt.f kj35 t835 t819).bind fun bt854 => (if t845 = true then (if t844 = true then (if bt846.2 = true then ((laws_dCircles.f kj35 bt846.1 t818).bind fun t858 => (if t858 = true then (if bt850.2 = true then (if bt854.2 = true then ((laws_dSame.f kj35 bt854.1 bt850.1).bind fun t859 => (if t859 = true then (laws_FnConfigurations.j2 kj35 l1) else (some false))) else (laws_FnConfigurations.j2 kj35 l1)) else (some false)) else (some false))) else (some false)) else (some false)) else (some false))))) = some r := H
          have A49 := Aside0.mk A490
          clear A490
          replace H := Option.bind_eq_some_iff.mp H
          obtain ⟨⟨t846, t847⟩, A500, H⟩ := H
          replace H : ((impl_CurvaturesOf.f kj35 t822).bind fun bt850 => ((impl_SwapAt.f kj35 t835 t819).bind fun bt854 => (if t845 = true then (if t844 = true then (if t847 = true then ((laws_dCircles.f kj35 t846 t818).bind fun t858 => (if t858 = true then (if bt850.2 = true then (if bt854.2 = true then ((laws_dSame.f kj35 bt854.1 bt850.1).bind fun t859 => (if t859 = true then (laws_FnConfigurations.j2 kj35 l1) else (some false))) else (laws_FnConfigurations.j2 kj35 l1)) else (some false)) else (some false))) else (some false)) else (some false)) else (some false)))) = some r := H
          have A50 := Aside0.mk A500
          clear A500
          replace H := Option.bind_eq_some_iff.mp H
          obtain ⟨⟨t850, t851⟩, A510, H⟩ := H
          replace H : ((impl_SwapAt.f kj35 t835 t819).bind fun bt854 => (if t845 = true then (if t844 = true then (if t847 = true then ((laws_dCircles.f kj35 t846 t818).bind fun t858 => (if t858 = true then (if t851 = true then (if bt854.2 = true then ((laws_dSame.f kj35 bt854.1 t850).bind fun t859 => (if t859 = true then (laws_FnConfigurations.j2 kj35 l1) else (some false))) else (laws_FnConfigurations.j2 kj35 l1)) else (some false)) else (some false))) else (some false)) else (some false)) else (some false))) = some r := H
          have A51 := Aside0.mk A510
          clear A510
          replace H := Option.bind_eq_some_iff.mp H
          obtain ⟨⟨t854, t855⟩, A520, H⟩ := H
          replace H : (if t845 = true then (if t844 = true then (if t847 = true then ((laws_dCircles.f kj35 t846 t818).bind fun t858 => (if t858 = true then (if t851 = true then (if t855 = true then ((laws_dSame.f kj35 t854 t850).bind fun t859 => (if t859 = true then (laws_FnConfigurations.j2 kj35 l1) else (some false))) else (laws_FnConfigurations.j2 kj35 l1)) else (some false)) else (some false))) else (some false)) else (some false)) else (some false)) = some r := H
          have A52 := Aside0.mk A520
          clear A520
          by_cases c53 : t845 = true
          ·
           subst c53
           have H1 : (if t844 = true then (if t847 = true then ((laws_dCircles.f kj35 t846 t818).bind fun t858 => (if t858 = true then (if t851 = true then (if t855 = true then ((laws_dSame.f kj35 t854 t850).bind fun t859 => (if t859 = true then (laws_FnConfigurations.j2 kj35 l1) else (some false))) else (laws_FnConfigurations.j2 kj35 l1)) else (some false)) else (some false))) else (some false)) else (some false)) = some r := by rw [if_pos rfl] at H; exact H
           clear H
           have H := H1
           clear H1
           by_cases c54 : t844 = true
           ·
            subst c54
            have H1 : (if t847 = true then ((laws_dCircles.f kj35 t846 t818).bind fun t858 => (if t858 = true then (if t851 = true then (if t855 = true then ((laws_dSame.f kj35 t854 t850).bind fun t859 => (if t859 = true then (laws_FnConfigurations.j2 kj35 l1) else (some false))) else (laws_FnConfigurations.j2 kj35 l1)) else (some false)) else (some false))) else (some false)) = some r := by rw [if_pos rfl] at H; exact H
            clear H
            have H := H1
            clear H1
            by_cases c55 : t847 = true
            ·
             subst c55
             have H1 : ((laws_dCircles.f kj35 t846 t818).bind fun t858 => (if t858 = true then (if t851 = true then (if t855 = true then ((laws_dSame.f kj35 t854 t850).bind fun t859 => (if t859 = true then (laws_FnConfigurations.j2 kj35 l1) else (some false))) else (laws_FnConfigurations.j2 kj35 l1)) else (some false)) else (some false))) = some r := by rw [if_pos rfl] at H; exact H
             clear H
             have H := H1
             clear H1
             replace H := Option.bind_eq_some_iff.mp H
             obtain ⟨t858, A560, H⟩ := H
             replace H : (if t858 = true then (if t851 = true then (if t855 = true then ((laws_dSame.f kj35 t854 t850).bind fun t859 => (if t859 = true then (laws_FnConfigurations.j2 kj35 l1) else (some false))) else (laws_FnConfigurations.j2 kj35 l1)) else (some false)) else (some false)) = some r := H
             have A56 := Aside0.mk A560
             clear A560
             by_cases c57 : t858 = true
             ·
              subst c57
              have H1 : (if t851 = true then (if t855 = true then ((laws_dSame.f kj35 t854 t850).bind fun t859 => (if t859 = true then (laws_FnConfigurations.j2 kj35 l1) else (some false))) else (laws_FnConfigurations.j2 kj35 l1)) else (some false)) = some r := by rw [if_pos rfl] at H; exact H
              clear H
              have H := H1
              clear H1
              by_cases c58 : t851 = true
              ·
               subst c58
               have H1 : (if t855 = true then ((laws_dSame.f kj35 t854 t850).bind fun t859 => (if t859 = true then (laws_FnConfigurations.j2 kj35 l1) else (some false))) else (laws_FnConfigurations.j2 kj35 l1)) = some r := by rw [if_pos rfl] at H; exact H
               clear H
               have H := H1
               clear H1
               by_cases c59 : t855 = true
               ·
                subst c59
                have H1 : ((laws_dSame.f kj35 t854 t850).bind fun t859 => (if t859 = true then (laws_FnConfigurations.j2 kj35 l1) else (some false))) = some r := by rw [if_pos rfl] at H; exact H
                clear H
                have H := H1
                clear H1
                replace H := Option.bind_eq_some_iff.mp H
                obtain ⟨t859, A600, H⟩ := H
                replace H : (if t859 = true then (laws_FnConfigurations.j2 kj35 l1) else (some false)) = some r := H
                have A60 := Aside0.mk A600
                clear A600
                by_cases c61 : t859 = true
                ·
                 subst c61
                 have H1 : (laws_FnConfigurations.j2 kj35 l1) = some r := by rw [if_pos rfl] at H; exact H
                 clear H
                 have H := H1
                 clear H1
                 have H' := Aside0.mk H
                 clear H
                 obtain ⟨Ao62, co62, eo62⟩ := Kd.R_slice HO_7.out
                 subst eo62
                 go_wp2_with (first | ((with_reducible refine gate_callee (f := 36) rfl ?_); refine goesL_ (some 131) rfl rfl Try.func36 (by kernel_rfl) rfl #[.slice Ao62 t822.length co62] rfl (by (try simp only [List.map_toArray, List.map_cons, List.map_nil]); first | done | rfl | (simp only [List.length_drop, List.length_take]; rfl)) ?_; (with_reducible refine (impl_IsConfig.calls kj35 _ _ t822 true true _ ?side1 ?side2 A49.out).mono ?_); (case side1 => repeat (first | exact (Kd.R_reads' HO_7.out).2.2 | (with_reducible refine Kd.C_alloc ?_ _) | (with_reducible refine Kd.C_drewN ?_ _) | (with_reducible refine Kd.C_drew ?_))); (case side2 => exact (Kd.R_reads' HO_7.out).2.1); rintro e w63 ⟨rfl, hb⟩; refine ⟨_, rfl, ?_⟩; have n0_ := Aside0.mk (Kd.R_below (by (with_reducible repeat (first | apply Kd.R_alloc | apply Kd.R_drewN | apply Kd.R_drew)); exact HO_5.out) hb); have n1_ := Aside0.mk (Kd.R_below (by (with_reducible repeat (first | apply Kd.R_alloc | apply Kd.R_drewN | apply Kd.R_drew)); exact HO_7.out) hb); have n2_ := Aside0.mk (Kd.R_below (by (with_reducible repeat (first | apply Kd.R_alloc | apply Kd.R_drewN | apply Kd.R_drew)); exact HO_15.out) hb); have n3_ := Aside0.mk (below_step (by repeat (first | (with_reducible first | exact HB.out | apply below_alloc | apply pw_below_drewN | apply below_drew1) | exact HB.out)) hb); clear HO_5; clear HO_7; clear HO_15; clear HB; have HO_5 := n0_; have HO_7 := n1_; have HO_15 := n2_; have HB := n3_; clear n0_ n1_ n2_ n3_; (try clear hb); (try clear hb2); (try clear hk); (try clear hi)) | ((with_reducible refine gate_callee (f := 34) rfl ?_); refine goesL_ (some 137) rfl rfl Try.func34 (by kernel_rfl) rfl #[.slice Ao62 t822.length co62, .int .i64 t819] rfl (by (try simp only [List.map_toArray, List.map_cons, List.map_nil]); first | done | rfl | (simp only [List.length_drop, List.length_take]; rfl)) ?_; (with_reducible refine (impl_SwapCircle.calls kj35 _ _ t822 t819 t846 true _ ?side1 ?side2 A50.out).mono ?_); (case side1 => repeat (first | exact (Kd.R_reads' HO_7.out).2.2 | (with_reducible refine Kd.C_alloc ?_ _) | (with_reducible refine Kd.C_drewN ?_ _) | (with_reducible refine Kd.C_drew ?_))); (case side2 => exact (Kd.R_reads' HO_7.out).2.1); rintro e w64 ⟨v848, rfl, ho0, hb⟩; refine ⟨_, rfl, ?_⟩; have n0_ := Aside0.mk (Kd.R_elder' (by (with_reducible repeat (first | apply Kd.R_alloc | apply Kd.R_drewN | apply Kd.R_drew)); exact HO_5.out) (Kd.R_base ho0) hb); have n1_ := Aside0.mk (Kd.R_elder' (by (with_reducible repeat (first | apply Kd.R_alloc | apply Kd.R_drewN | apply Kd.R_drew)); exact HO_7.out) (Kd.R_base ho0) hb); have n2_ := Aside0.mk (Kd.R_below (by (with_reducible repeat (first | apply Kd.R_alloc | apply Kd.R_drewN | apply Kd.R_drew)); exact HO_15.out) hb); have n3_ := Aside0.mk (Kd.R_lower (Kd.R_new' (Kd.R_new' ho0 (Kd.R_lt (by (with_reducible repeat (first | apply Kd.R_alloc | apply Kd.R_drewN | apply Kd.R_drew)); exact HO_5.out))) (Kd.R_lt (by (with_reducible repeat (first | apply Kd.R_alloc | apply Kd.R_drewN | apply Kd.R_drew)); exact HO_7.out))) (below_size (by repeat (first | (with_reducible first | exact HB.out | apply below_alloc | apply pw_below_drewN | apply below_drew1) | exact HB.out)))); have n4_ := Aside0.mk (below_step (by repeat (first | (with_reducible first | exact HB.out | apply below_alloc | apply pw_below_drewN | apply below_drew1) | exact HB.out)) hb); clear HO_5; clear HO_7; clear HO_15; clear HB; have HO_5 := n0_; have HO_7 := n1_; have HO_15 := n2_; have HO849 := n3_; have HB := n4_; clear n0_ n1_ n2_ n3_ n4_; (try clear hb); (try clear hb2); (try clear hk); (try clear hi); (try clear ho0)) | ((with_reducible refine gate_callee (f := 39) rfl ?_); refine goesL_ (some 142) rfl rfl Try.func39 (by kernel_rfl) rfl #[.slice Ao62 t822.length co62] rfl (by (try simp only [List.map_toArray, List.map_cons, List.map_nil]); first | done | rfl | (simp only [List.length_drop, List.length_take]; rfl)) ?_; (with_reducible refine (impl_CurvaturesOf.calls kj35 _ _ t822 t850 true _ ?side1 ?side2 A51.out).mono ?_); (case side1 => repeat (first | exact (Kd.R_reads' HO_7.out).2.2 | (with_reducible refine Kd.C_alloc ?_ _) | (with_reducible refine Kd.C_drewN ?_ _) | (with_reducible refine Kd.C_drew ?_))); (case side2 => exact (Kd.R_reads' HO_7.out).2.1); rintro e w65 ⟨v852, rfl, ho0, hb⟩; refine ⟨_, rfl, ?_⟩; have n0_ := Aside0.mk (Kd.R_below (by (with_reducible repeat (first | apply Kd.R_alloc | apply Kd.R_drewN | apply Kd.R_drew)); exact HO_5.out) hb); have n1_ := Aside0.mk (Kd.R_below (by (with_reducible repeat (first | apply Kd.R_alloc | apply Kd.R_drewN | apply Kd.R_drew)); exact HO_7.out) hb); have n2_ := Aside0.mk (Kd.R_elder' (by (with_reducible repeat (first | apply Kd.R_alloc | apply Kd.R_drewN | apply Kd.R_drew)); exact HO_15.out) (Kd.R_base ho0) hb); have n3_ := Aside0.mk (Kd.R_below (by (with_reducible repeat (first | apply Kd.R_alloc | apply Kd.R_drewN | apply Kd.R_drew)); exact HO849.out) hb); have n4_ := Aside0.mk (Kd.R_lower (Kd.R_new' ho0 (Kd.R_lt (by (with_reducible repeat (first | apply Kd.R_alloc | apply Kd.R_drewN | apply Kd.R_drew)); exact HO_15.out))) (below_size (by repeat (first | (with_reducible first | exact HB.out | apply below_alloc | apply pw_below_drewN | apply below_drew1) | exact HB.out)))); have n5_ := Aside0.mk (below_step (by repeat (first | (with_reducible first | exact HB.out | apply below_alloc | apply pw_below_drewN | apply below_drew1) | exact HB.out)) hb); clear HO_5; clear HO_7; clear HO_15; clear HO849; clear HB; have HO_5 := n0_; have HO_7 := n1_; have HO_15 := n2_; have HO849 := n3_; have HO853 := n4_; have HB := n5_; clear n0_ n1_ n2_ n3_ n4_ n5_; (try clear hb); (try clear hb2); (try clear hk); (try clear hi); (try clear ho0); obtain ⟨Ao66, co66, eo66⟩ := Kd.R_slice HO_15.out; subst eo66) | ((with_reducible refine gate_callee (f := 41) rfl ?_); refine goesL_ (some 148) rfl rfl Try.func41 (by kernel_rfl) rfl #[.slice Ao66 t835.length co66, .int .i64 t819] rfl (by (try simp only [List.map_toArray, List.map_cons, List.map_nil]); first | done | rfl | (simp only [List.length_drop, List.length_take]; rfl)) ?_; (with_reducible refine (impl_SwapAt.calls kj35 _ _ t835 t819 t854 true _ ?side1 ?side2 A52.out).mono ?_); (case side1 => repeat (first | exact (Kd.R_reads' HO_15.out).2.2 | (with_reducible refine Kd.C_alloc ?_ _) | (with_reducible refine Kd.C_drewN ?_ _) | (with_reducible refine Kd.C_drew ?_))); (case side2 => exact (Kd.R_reads' HO_15.out).2.1); rintro e w67 ⟨v856, rfl, ho0, hb⟩; refine ⟨_, rfl, ?_⟩; have n0_ := Aside0.mk (Kd.R_below (by (with_reducible repeat (first | apply Kd.R_alloc | apply Kd.R_drewN | apply Kd.R_drew)); exact HO_5.out) hb); have n1_ := Aside0.mk (Kd.R_below (by (with_reducible repeat (first | apply Kd.R_alloc | apply Kd.R_drewN | apply Kd.R_drew)); exact HO_7.out) hb); have n2_ := Aside0.mk (Kd.R_elder' (by (with_reducible repeat (first | apply Kd.R_alloc | apply Kd.R_drewN | apply Kd.R_drew)); exact HO_15.out) (Kd.R_base ho0) hb); have n3_ := Aside0.mk (Kd.R_below (by (with_reducible repeat (first | apply Kd.R_alloc | apply Kd.R_drewN | apply Kd.R_drew)); exact HO849.out) hb); have n4_ := Aside0.mk (Kd.R_elder' (by (with_reducible repeat (first | apply Kd.R_alloc | apply Kd.R_drewN | apply Kd.R_drew)); exact HO853.out) (Kd.R_base ho0) hb); have n5_ := Aside0.mk (Kd.R_lower (Kd.R_new' (Kd.R_new' ho0 (Kd.R_lt (by (with_reducible repeat (first | apply Kd.R_alloc | apply Kd.R_drewN | apply Kd.R_drew)); exact HO_15.out))) (Kd.R_lt (by (with_reducible repeat (first | apply Kd.R_alloc | apply Kd.R_drewN | apply Kd.R_drew)); exact HO853.out))) (below_size (by repeat (first | (with_reducible first | exact HB.out | apply below_alloc | apply pw_below_drewN | apply below_drew1) | exact HB.out)))); have n6_ := Aside0.mk (below_step (by repeat (first | (with_reducible first | exact HB.out | apply below_alloc | apply pw_below_drewN | apply below_drew1) | exact HB.out)) hb); clear HO_5; clear HO_7; clear HO_15; clear HO849; clear HO853; clear HB; have HO_5 := n0_; have HO_7 := n1_; have HO_15 := n2_; have HO849 := n3_; have HO853 := n4_; have HO857 := n5_; have HB := n6_; clear n0_ n1_ n2_ n3_ n4_ n5_ n6_; (try clear hb); (try clear hb2); (try clear hk); (try clear hi); (try clear ho0); obtain ⟨Ao68, co68, eo68⟩ := Kd.R_slice HO849.out; subst eo68) | (go_at_call 38; (with_reducible refine (laws_dCircles.calls kj35 _ _ t846 _ _ t818 true _ ?side1 ?side2 ?side3 ?side4 A56.out).mono ?_); (case side1 => repeat (first | exact (Kd.R_reads' HO849.out).2.2 | (with_reducible refine Kd.C_alloc ?_ _) | (with_reducible refine Kd.C_drewN ?_ _) | (with_reducible refine Kd.C_drew ?_))); (case side2 => exact (Kd.R_reads' HO849.out).2.1); (case side3 => repeat (first | exact (Kd.R_reads' HO_5.out).2.2 | (with_reducible refine Kd.C_alloc ?_ _) | (with_reducible refine Kd.C_drewN ?_ _) | (with_reducible refine Kd.C_drew ?_))); (case side4 => exact (Kd.R_reads' HO_5.out).2.1); rintro e w' ⟨rfl, ⟨nd, rfl⟩⟩; obtain ⟨Ao69, co69, eo69⟩ := Kd.R_slice HO857.out; subst eo69; obtain ⟨Ao70, co70, eo70⟩ := Kd.R_slice HO853.out; subst eo70) | (go_at_call 14; (with_reducible refine (laws_dSame.calls kj35 _ _ t854 _ _ t850 true _ ?side1 ?side2 ?side3 ?side4 A60.out).mono ?_); (case side1 => repeat (first | exact (Kd.R_reads' HO857.out).2.2 | (with_reducible refine Kd.C_alloc ?_ _) | (with_reducible refine Kd.C_drewN ?_ _) | (with_reducible refine Kd.C_drew ?_))); (case side2 => exact (Kd.R_reads' HO857.out).2.1); (case side3 => repeat (first | exact (Kd.R_reads' HO853.out).2.2 | (with_reducible refine Kd.C_alloc ?_ _) | (with_reducible refine Kd.C_drewN ?_ _) | (with_reducible refine Kd.C_drew ?_))); (case side4 => exact (Kd.R_reads' HO853.out).2.1); rintro e w' ⟨rfl, ⟨nd, rfl⟩⟩))
                 go_meet
                 case rel => exact ⟨_, H', ⟨by have := HJ9.out; have := HJ35.out; first | omega | exact Nat.le_refl _⟩, ⟨by repeat (first | (with_reducible first | exact HB.out | apply below_alloc | apply pw_below_drewN | apply below_drew1) | exact HB.out)⟩⟩
                ·
                 replace c61 := Bool.eq_false_iff.mpr c61
                 subst c61
                 have H1 : (some false) = some r := by rw [if_neg (show ¬ (false = true) by decide)] at H; exact H
                 clear H
                 have H := H1
                 clear H1
                 obtain rfl := Option.some.inj H
                 obtain ⟨Ao71, co71, eo71⟩ := Kd.R_slice HO_7.out
                 subst eo71
                 go_wp2_with (first | ((with_reducible refine gate_callee (f := 36) rfl ?_); refine goesL_ (some 131) rfl rfl Try.func36 (by kernel_rfl) rfl #[.slice Ao71 t822.length co71] rfl (by (try simp only [List.map_toArray, List.map_cons, List.map_nil]); first | done | rfl | (simp only [List.length_drop, List.length_take]; rfl)) ?_; (with_reducible refine (impl_IsConfig.calls kj35 _ _ t822 true true _ ?side1 ?side2 A49.out).mono ?_); (case side1 => repeat (first | exact (Kd.R_reads' HO_7.out).2.2 | (with_reducible refine Kd.C_alloc ?_ _) | (with_reducible refine Kd.C_drewN ?_ _) | (with_reducible refine Kd.C_drew ?_))); (case side2 => exact (Kd.R_reads' HO_7.out).2.1); rintro e w72 ⟨rfl, hb⟩; refine ⟨_, rfl, ?_⟩; have n0_ := Aside0.mk (Kd.R_below (by (with_reducible repeat (first | apply Kd.R_alloc | apply Kd.R_drewN | apply Kd.R_drew)); exact HO_5.out) hb); have n1_ := Aside0.mk (Kd.R_below (by (with_reducible repeat (first | apply Kd.R_alloc | apply Kd.R_drewN | apply Kd.R_drew)); exact HO_7.out) hb); have n2_ := Aside0.mk (Kd.R_below (by (with_reducible repeat (first | apply Kd.R_alloc | apply Kd.R_drewN | apply Kd.R_drew)); exact HO_15.out) hb); have n3_ := Aside0.mk (below_step (by repeat (first | (with_reducible first | exact HB.out | apply below_alloc | apply pw_below_drewN | apply below_drew1) | exact HB.out)) hb); clear HO_5; clear HO_7; clear HO_15; clear HB; have HO_5 := n0_; have HO_7 := n1_; have HO_15 := n2_; have HB := n3_; clear n0_ n1_ n2_ n3_; (try clear hb); (try clear hb2); (try clear hk); (try clear hi)) | ((with_reducible refine gate_callee (f := 34) rfl ?_); refine goesL_ (some 137) rfl rfl Try.func34 (by kernel_rfl) rfl #[.slice Ao71 t822.length co71, .int .i64 t819] rfl (by (try simp only [List.map_toArray, List.map_cons, List.map_nil]); first | done | rfl | (simp only [List.length_drop, List.length_take]; rfl)) ?_; (with_reducible refine (impl_SwapCircle.calls kj35 _ _ t822 t819 t846 true _ ?side1 ?side2 A50.out).mono ?_); (case side1 => repeat (first | exact (Kd.R_reads' HO_7.out).2.2 | (with_reducible refine Kd.C_alloc ?_ _) | (with_reducible refine Kd.C_drewN ?_ _) | (with_reducible refine Kd.C_drew ?_))); (case side2 => exact (Kd.R_reads' HO_7.out).2.1); rintro e w73 ⟨v848, rfl, ho0, hb⟩; refine ⟨_, rfl, ?_⟩; have n0_ := Aside0.mk (Kd.R_elder' (by (with_reducible repeat (first | apply Kd.R_alloc | apply Kd.R_drewN | apply Kd.R_drew)); exact HO_5.out) (Kd.R_base ho0) hb); have n1_ := Aside0.mk (Kd.R_elder' (by (with_reducible repeat (first | apply Kd.R_alloc | apply Kd.R_drewN | apply Kd.R_drew)); exact HO_7.out) (Kd.R_base ho0) hb); have n2_ := Aside0.mk (Kd.R_below (by (with_reducible repeat (first | apply Kd.R_alloc | apply Kd.R_drewN | apply Kd.R_drew)); exact HO_15.out) hb); have n3_ := Aside0.mk (Kd.R_lower (Kd.R_new' (Kd.R_new' ho0 (Kd.R_lt (by (with_reducible repeat (first | apply Kd.R_alloc | apply Kd.R_drewN | apply Kd.R_drew)); exact HO_5.out))) (Kd.R_lt (by (with_reducible repeat (first | apply Kd.R_alloc | apply Kd.R_drewN | apply Kd.R_drew)); exact HO_7.out))) (below_size (by repeat (first | (with_reducible first | exact HB.out | apply below_alloc | apply pw_below_drewN | apply below_drew1) | exact HB.out)))); have n4_ := Aside0.mk (below_step (by repeat (first | (with_reducible first | exact HB.out | apply below_alloc | apply pw_below_drewN | apply below_drew1) | exact HB.out)) hb); clear HO_5; clear HO_7; clear HO_15; clear HB; have HO_5 := n0_; have HO_7 := n1_; have HO_15 := n2_; have HO849 := n3_; have HB := n4_; clear n0_ n1_ n2_ n3_ n4_; (try clear hb); (try clear hb2); (try clear hk); (try clear hi); (try clear ho0)) | ((with_reducible refine gate_callee (f := 39) rfl ?_); refine goesL_ (some 142) rfl rfl Try.func39 (by kernel_rfl) rfl #[.slice Ao71 t822.length co71] rfl (by (try simp only [List.map_toArray, List.map_cons, List.map_nil]); first | done | rfl | (simp only [List.length_drop, List.length_take]; rfl)) ?_; (with_reducible refine (impl_CurvaturesOf.calls kj35 _ _ t822 t850 true _ ?side1 ?side2 A51.out).mono ?_); (case side1 => repeat (first | exact (Kd.R_reads' HO_7.out).2.2 | (with_reducible refine Kd.C_alloc ?_ _) | (with_reducible refine Kd.C_drewN ?_ _) | (with_reducible refine Kd.C_drew ?_))); (case side2 => exact (Kd.R_reads' HO_7.out).2.1); rintro e w74 ⟨v852, rfl, ho0, hb⟩; refine ⟨_, rfl, ?_⟩; have n0_ := Aside0.mk (Kd.R_below (by (with_reducible repeat (first | apply Kd.R_alloc | apply Kd.R_drewN | apply Kd.R_drew)); exact HO_5.out) hb); have n1_ := Aside0.mk (Kd.R_below (by (with_reducible repeat (first | apply Kd.R_alloc | apply Kd.R_drewN | apply Kd.R_drew)); exact HO_7.out) hb); have n2_ := Aside0.mk (Kd.R_elder' (by (with_reducible repeat (first | apply Kd.R_alloc | apply Kd.R_drewN | apply Kd.R_drew)); exact HO_15.out) (Kd.R_base ho0) hb); have n3_ := Aside0.mk (Kd.R_below (by (with_reducible repeat (first | apply Kd.R_alloc | apply Kd.R_drewN | apply Kd.R_drew)); exact HO849.out) hb); have n4_ := Aside0.mk (Kd.R_lower (Kd.R_new' ho0 (Kd.R_lt (by (with_reducible repeat (first | apply Kd.R_alloc | apply Kd.R_drewN | apply Kd.R_drew)); exact HO_15.out))) (below_size (by repeat (first | (with_reducible first | exact HB.out | apply below_alloc | apply pw_below_drewN | apply below_drew1) | exact HB.out)))); have n5_ := Aside0.mk (below_step (by repeat (first | (with_reducible first | exact HB.out | apply below_alloc | apply pw_below_drewN | apply below_drew1) | exact HB.out)) hb); clear HO_5; clear HO_7; clear HO_15; clear HO849; clear HB; have HO_5 := n0_; have HO_7 := n1_; have HO_15 := n2_; have HO849 := n3_; have HO853 := n4_; have HB := n5_; clear n0_ n1_ n2_ n3_ n4_ n5_; (try clear hb); (try clear hb2); (try clear hk); (try clear hi); (try clear ho0); obtain ⟨Ao75, co75, eo75⟩ := Kd.R_slice HO_15.out; subst eo75) | ((with_reducible refine gate_callee (f := 41) rfl ?_); refine goesL_ (some 148) rfl rfl Try.func41 (by kernel_rfl) rfl #[.slice Ao75 t835.length co75, .int .i64 t819] rfl (by (try simp only [List.map_toArray, List.map_cons, List.map_nil]); first | done | rfl | (simp only [List.length_drop, List.length_take]; rfl)) ?_; (with_reducible refine (impl_SwapAt.calls kj35 _ _ t835 t819 t854 true _ ?side1 ?side2 A52.out).mono ?_); (case side1 => repeat (first | exact (Kd.R_reads' HO_15.out).2.2 | (with_reducible refine Kd.C_alloc ?_ _) | (with_reducible refine Kd.C_drewN ?_ _) | (with_reducible refine Kd.C_drew ?_))); (case side2 => exact (Kd.R_reads' HO_15.out).2.1); rintro e w76 ⟨v856, rfl, ho0, hb⟩; refine ⟨_, rfl, ?_⟩; have n0_ := Aside0.mk (Kd.R_below (by (with_reducible repeat (first | apply Kd.R_alloc | apply Kd.R_drewN | apply Kd.R_drew)); exact HO_5.out) hb); have n1_ := Aside0.mk (Kd.R_below (by (with_reducible repeat (first | apply Kd.R_alloc | apply Kd.R_drewN | apply Kd.R_drew)); exact HO_7.out) hb); have n2_ := Aside0.mk (Kd.R_elder' (by (with_reducible repeat (first | apply Kd.R_alloc | apply Kd.R_drewN | apply Kd.R_drew)); exact HO_15.out) (Kd.R_base ho0) hb); have n3_ := Aside0.mk (Kd.R_below (by (with_reducible repeat (first | apply Kd.R_alloc | apply Kd.R_drewN | apply Kd.R_drew)); exact HO849.out) hb); have n4_ := Aside0.mk (Kd.R_elder' (by (with_reducible repeat (first | apply Kd.R_alloc | apply Kd.R_drewN | apply Kd.R_drew)); exact HO853.out) (Kd.R_base ho0) hb); have n5_ := Aside0.mk (Kd.R_lower (Kd.R_new' (Kd.R_new' ho0 (Kd.R_lt (by (with_reducible repeat (first | apply Kd.R_alloc | apply Kd.R_drewN | apply Kd.R_drew)); exact HO_15.out))) (Kd.R_lt (by (with_reducible repeat (first | apply Kd.R_alloc | apply Kd.R_drewN | apply Kd.R_drew)); exact HO853.out))) (below_size (by repeat (first | (with_reducible first | exact HB.out | apply below_alloc | apply pw_below_drewN | apply below_drew1) | exact HB.out)))); have n6_ := Aside0.mk (below_step (by repeat (first | (with_reducible first | exact HB.out | apply below_alloc | apply pw_below_drewN | apply below_drew1) | exact HB.out)) hb); clear HO_5; clear HO_7; clear HO_15; clear HO849; clear HO853; clear HB; have HO_5 := n0_; have HO_7 := n1_; have HO_15 := n2_; have HO849 := n3_; have HO853 := n4_; have HO857 := n5_; have HB := n6_; clear n0_ n1_ n2_ n3_ n4_ n5_ n6_; (try clear hb); (try clear hb2); (try clear hk); (try clear hi); (try clear ho0); obtain ⟨Ao77, co77, eo77⟩ := Kd.R_slice HO849.out; subst eo77) | (go_at_call 38; (with_reducible refine (laws_dCircles.calls kj35 _ _ t846 _ _ t818 true _ ?side1 ?side2 ?side3 ?side4 A56.out).mono ?_); (case side1 => repeat (first | exact (Kd.R_reads' HO849.out).2.2 | (with_reducible refine Kd.C_alloc ?_ _) | (with_reducible refine Kd.C_drewN ?_ _) | (with_reducible refine Kd.C_drew ?_))); (case side2 => exact (Kd.R_reads' HO849.out).2.1); (case side3 => repeat (first | exact (Kd.R_reads' HO_5.out).2.2 | (with_reducible refine Kd.C_alloc ?_ _) | (with_reducible refine Kd.C_drewN ?_ _) | (with_reducible refine Kd.C_drew ?_))); (case side4 => exact (Kd.R_reads' HO_5.out).2.1); rintro e w' ⟨rfl, ⟨nd, rfl⟩⟩; obtain ⟨Ao78, co78, eo78⟩ := Kd.R_slice HO857.out; subst eo78; obtain ⟨Ao79, co79, eo79⟩ := Kd.R_slice HO853.out; subst eo79) | (go_at_call 14; (with_reducible refine (laws_dSame.calls kj35 _ _ t854 _ _ t850 false _ ?side1 ?side2 ?side3 ?side4 A60.out).mono ?_); (case side1 => repeat (first | exact (Kd.R_reads' HO857.out).2.2 | (with_reducible refine Kd.C_alloc ?_ _) | (with_reducible refine Kd.C_drewN ?_ _) | (with_reducible refine Kd.C_drew ?_))); (case side2 => exact (Kd.R_reads' HO857.out).2.1); (case side3 => repeat (first | exact (Kd.R_reads' HO853.out).2.2 | (with_reducible refine Kd.C_alloc ?_ _) | (with_reducible refine Kd.C_drewN ?_ _) | (with_reducible refine Kd.C_drew ?_))); (case side4 => exact (Kd.R_reads' HO853.out).2.1); rintro e w' ⟨rfl, ⟨nd, rfl⟩⟩))
                 go_ret
                 exact ⟨by first | rfl | (simp [errW_none, errW_some] <;> rfl) | (simp [*, errW_none, errW_some] <;> rfl), by repeat (first | (with_reducible first | exact HB.out | apply below_alloc | apply pw_below_drewN | apply below_drew1) | exact HB.out)⟩
               ·
                replace c59 := Bool.eq_false_iff.mpr c59
                subst c59
                have H1 : (laws_FnConfigurations.j2 kj35 l1) = some r := by rw [if_neg (show ¬ (false = true) by decide)] at H; exact H
                clear H
                have H := H1
                clear H1
                have H' := Aside0.mk H
                clear H
                obtain ⟨Ao80, co80, eo80⟩ := Kd.R_slice HO_7.out
                subst eo80
                go_wp2_with (first | ((with_reducible refine gate_callee (f := 36) rfl ?_); refine goesL_ (some 131) rfl rfl Try.func36 (by kernel_rfl) rfl #[.slice Ao80 t822.length co80] rfl (by (try simp only [List.map_toArray, List.map_cons, List.map_nil]); first | done | rfl | (simp only [List.length_drop, List.length_take]; rfl)) ?_; (with_reducible refine (impl_IsConfig.calls kj35 _ _ t822 true true _ ?side1 ?side2 A49.out).mono ?_); (case side1 => repeat (first | exact (Kd.R_reads' HO_7.out).2.2 | (with_reducible refine Kd.C_alloc ?_ _) | (with_reducible refine Kd.C_drewN ?_ _) | (with_reducible refine Kd.C_drew ?_))); (case side2 => exact (Kd.R_reads' HO_7.out).2.1); rintro e w81 ⟨rfl, hb⟩; refine ⟨_, rfl, ?_⟩; have n0_ := Aside0.mk (Kd.R_below (by (with_reducible repeat (first | apply Kd.R_alloc | apply Kd.R_drewN | apply Kd.R_drew)); exact HO_5.out) hb); have n1_ := Aside0.mk (Kd.R_below (by (with_reducible repeat (first | apply Kd.R_alloc | apply Kd.R_drewN | apply Kd.R_drew)); exact HO_7.out) hb); have n2_ := Aside0.mk (Kd.R_below (by (with_reducible repeat (first | apply Kd.R_alloc | apply Kd.R_drewN | apply Kd.R_drew)); exact HO_15.out) hb); have n3_ := Aside0.mk (below_step (by repeat (first | (with_reducible first | exact HB.out | apply below_alloc | apply pw_below_drewN | apply below_drew1) | exact HB.out)) hb); clear HO_5; clear HO_7; clear HO_15; clear HB; have HO_5 := n0_; have HO_7 := n1_; have HO_15 := n2_; have HB := n3_; clear n0_ n1_ n2_ n3_; (try clear hb); (try clear hb2); (try clear hk); (try clear hi)) | ((with_reducible refine gate_callee (f := 34) rfl ?_); refine goesL_ (some 137) rfl rfl Try.func34 (by kernel_rfl) rfl #[.slice Ao80 t822.length co80, .int .i64 t819] rfl (by (try simp only [List.map_toArray, List.map_cons, List.map_nil]); first | done | rfl | (simp only [List.length_drop, List.length_take]; rfl)) ?_; (with_reducible refine (impl_SwapCircle.calls kj35 _ _ t822 t819 t846 true _ ?side1 ?side2 A50.out).mono ?_); (case side1 => repeat (first | exact (Kd.R_reads' HO_7.out).2.2 | (with_reducible refine Kd.C_alloc ?_ _) | (with_reducible refine Kd.C_drewN ?_ _) | (with_reducible refine Kd.C_drew ?_))); (case side2 => exact (Kd.R_reads' HO_7.out).2.1); rintro e w82 ⟨v848, rfl, ho0, hb⟩; refine ⟨_, rfl, ?_⟩; have n0_ := Aside0.mk (Kd.R_elder' (by (with_reducible repeat (first | apply Kd.R_alloc | apply Kd.R_drewN | apply Kd.R_drew)); exact HO_5.out) (Kd.R_base ho0) hb); have n1_ := Aside0.mk (Kd.R_elder' (by (with_reducible repeat (first | apply Kd.R_alloc | apply Kd.R_drewN | apply Kd.R_drew)); exact HO_7.out) (Kd.R_base ho0) hb); have n2_ := Aside0.mk (Kd.R_below (by (with_reducible repeat (first | apply Kd.R_alloc | apply Kd.R_drewN | apply Kd.R_drew)); exact HO_15.out) hb); have n3_ := Aside0.mk (Kd.R_lower (Kd.R_new' (Kd.R_new' ho0 (Kd.R_lt (by (with_reducible repeat (first | apply Kd.R_alloc | apply Kd.R_drewN | apply Kd.R_drew)); exact HO_5.out))) (Kd.R_lt (by (with_reducible repeat (first | apply Kd.R_alloc | apply Kd.R_drewN | apply Kd.R_drew)); exact HO_7.out))) (below_size (by repeat (first | (with_reducible first | exact HB.out | apply below_alloc | apply pw_below_drewN | apply below_drew1) | exact HB.out)))); have n4_ := Aside0.mk (below_step (by repeat (first | (with_reducible first | exact HB.out | apply below_alloc | apply pw_below_drewN | apply below_drew1) | exact HB.out)) hb); clear HO_5; clear HO_7; clear HO_15; clear HB; have HO_5 := n0_; have HO_7 := n1_; have HO_15 := n2_; have HO849 := n3_; have HB := n4_; clear n0_ n1_ n2_ n3_ n4_; (try clear hb); (try clear hb2); (try clear hk); (try clear hi); (try clear ho0)) | ((with_reducible refine gate_callee (f := 39) rfl ?_); refine goesL_ (some 142) rfl rfl Try.func39 (by kernel_rfl) rfl #[.slice Ao80 t822.length co80] rfl (by (try simp only [List.map_toArray, List.map_cons, List.map_nil]); first | done | rfl | (simp only [List.length_drop, List.length_take]; rfl)) ?_; (with_reducible refine (impl_CurvaturesOf.calls kj35 _ _ t822 t850 true _ ?side1 ?side2 A51.out).mono ?_); (case side1 => repeat (first | exact (Kd.R_reads' HO_7.out).2.2 | (with_reducible refine Kd.C_alloc ?_ _) | (with_reducible refine Kd.C_drewN ?_ _) | (with_reducible refine Kd.C_drew ?_))); (case side2 => exact (Kd.R_reads' HO_7.out).2.1); rintro e w83 ⟨v852, rfl, ho0, hb⟩; refine ⟨_, rfl, ?_⟩; have n0_ := Aside0.mk (Kd.R_below (by (with_reducible repeat (first | apply Kd.R_alloc | apply Kd.R_drewN | apply Kd.R_drew)); exact HO_5.out) hb); have n1_ := Aside0.mk (Kd.R_below (by (with_reducible repeat (first | apply Kd.R_alloc | apply Kd.R_drewN | apply Kd.R_drew)); exact HO_7.out) hb); have n2_ := Aside0.mk (Kd.R_elder' (by (with_reducible repeat (first | apply Kd.R_alloc | apply Kd.R_drewN | apply Kd.R_drew)); exact HO_15.out) (Kd.R_base ho0) hb); have n3_ := Aside0.mk (Kd.R_below (by (with_reducible repeat (first | apply Kd.R_alloc | apply Kd.R_drewN | apply Kd.R_drew)); exact HO849.out) hb); have n4_ := Aside0.mk (Kd.R_lower (Kd.R_new' ho0 (Kd.R_lt (by (with_reducible repeat (first | apply Kd.R_alloc | apply Kd.R_drewN | apply Kd.R_drew)); exact HO_15.out))) (below_size (by repeat (first | (with_reducible first | exact HB.out | apply below_alloc | apply pw_below_drewN | apply below_drew1) | exact HB.out)))); have n5_ := Aside0.mk (below_step (by repeat (first | (with_reducible first | exact HB.out | apply below_alloc | apply pw_below_drewN | apply below_drew1) | exact HB.out)) hb); clear HO_5; clear HO_7; clear HO_15; clear HO849; clear HB; have HO_5 := n0_; have HO_7 := n1_; have HO_15 := n2_; have HO849 := n3_; have HO853 := n4_; have HB := n5_; clear n0_ n1_ n2_ n3_ n4_ n5_; (try clear hb); (try clear hb2); (try clear hk); (try clear hi); (try clear ho0); obtain ⟨Ao84, co84, eo84⟩ := Kd.R_slice HO_15.out; subst eo84) | ((with_reducible refine gate_callee (f := 41) rfl ?_); refine goesL_ (some 148) rfl rfl Try.func41 (by kernel_rfl) rfl #[.slice Ao84 t835.length co84, .int .i64 t819] rfl (by (try simp only [List.map_toArray, List.map_cons, List.map_nil]); first | done | rfl | (simp only [List.length_drop, List.length_take]; rfl)) ?_; (with_reducible refine (impl_SwapAt.calls kj35 _ _ t835 t819 t854 false _ ?side1 ?side2 A52.out).mono ?_); (case side1 => repeat (first | exact (Kd.R_reads' HO_15.out).2.2 | (with_reducible refine Kd.C_alloc ?_ _) | (with_reducible refine Kd.C_drewN ?_ _) | (with_reducible refine Kd.C_drew ?_))); (case side2 => exact (Kd.R_reads' HO_15.out).2.1); rintro e w85 ⟨v856, rfl, ho0, hb⟩; refine ⟨_, rfl, ?_⟩; have n0_ := Aside0.mk (Kd.R_below (by (with_reducible repeat (first | apply Kd.R_alloc | apply Kd.R_drewN | apply Kd.R_drew)); exact HO_5.out) hb); have n1_ := Aside0.mk (Kd.R_below (by (with_reducible repeat (first | apply Kd.R_alloc | apply Kd.R_drewN | apply Kd.R_drew)); exact HO_7.out) hb); have n2_ := Aside0.mk (Kd.R_elder' (by (with_reducible repeat (first | apply Kd.R_alloc | apply Kd.R_drewN | apply Kd.R_drew)); exact HO_15.out) (Kd.R_base ho0) hb); have n3_ := Aside0.mk (Kd.R_below (by (with_reducible repeat (first | apply Kd.R_alloc | apply Kd.R_drewN | apply Kd.R_drew)); exact HO849.out) hb); have n4_ := Aside0.mk (Kd.R_elder' (by (with_reducible repeat (first | apply Kd.R_alloc | apply Kd.R_drewN | apply Kd.R_drew)); exact HO853.out) (Kd.R_base ho0) hb); have n5_ := Aside0.mk (Kd.R_lower (Kd.R_new' (Kd.R_new' ho0 (Kd.R_lt (by (with_reducible repeat (first | apply Kd.R_alloc | apply Kd.R_drewN | apply Kd.R_drew)); exact HO_15.out))) (Kd.R_lt (by (with_reducible repeat (first | apply Kd.R_alloc | apply Kd.R_drewN | apply Kd.R_drew)); exact HO853.out))) (below_size (by repeat (first | (with_reducible first | exact HB.out | apply below_alloc | apply pw_below_drewN | apply below_drew1) | exact HB.out)))); have n6_ := Aside0.mk (below_step (by repeat (first | (with_reducible first | exact HB.out | apply below_alloc | apply pw_below_drewN | apply below_drew1) | exact HB.out)) hb); clear HO_5; clear HO_7; clear HO_15; clear HO849; clear HO853; clear HB; have HO_5 := n0_; have HO_7 := n1_; have HO_15 := n2_; have HO849 := n3_; have HO853 := n4_; have HO857 := n5_; have HB := n6_; clear n0_ n1_ n2_ n3_ n4_ n5_ n6_; (try clear hb); (try clear hb2); (try clear hk); (try clear hi); (try clear ho0); obtain ⟨Ao86, co86, eo86⟩ := Kd.R_slice HO849.out; subst eo86) | (go_at_call 38; (with_reducible refine (laws_dCircles.calls kj35 _ _ t846 _ _ t818 true _ ?side1 ?side2 ?side3 ?side4 A56.out).mono ?_); (case side1 => repeat (first | exact (Kd.R_reads' HO849.out).2.2 | (with_reducible refine Kd.C_alloc ?_ _) | (with_reducible refine Kd.C_drewN ?_ _) | (with_reducible refine Kd.C_drew ?_))); (case side2 => exact (Kd.R_reads' HO849.out).2.1); (case side3 => repeat (first | exact (Kd.R_reads' HO_5.out).2.2 | (with_reducible refine Kd.C_alloc ?_ _) | (with_reducible refine Kd.C_drewN ?_ _) | (with_reducible refine Kd.C_drew ?_))); (case side4 => exact (Kd.R_reads' HO_5.out).2.1); rintro e w' ⟨rfl, ⟨nd, rfl⟩⟩))
                go_meet
                case rel => exact ⟨_, H', ⟨by have := HJ9.out; have := HJ35.out; first | omega | exact Nat.le_refl _⟩, ⟨by repeat (first | (with_reducible first | exact HB.out | apply below_alloc | apply pw_below_drewN | apply below_drew1) | exact HB.out)⟩⟩
              ·
               replace c58 := Bool.eq_false_iff.mpr c58
               subst c58
               have H1 : (some false) = some r := by rw [if_neg (show ¬ (false = true) by decide)] at H; exact H
               clear H
               have H := H1
               clear H1
               obtain rfl := Option.some.inj H
               obtain ⟨Ao87, co87, eo87⟩ := Kd.R_slice HO_7.out
               subst eo87
               go_wp2_with (first | ((with_reducible refine gate_callee (f := 36) rfl ?_); refine goesL_ (some 131) rfl rfl Try.func36 (by kernel_rfl) rfl #[.slice Ao87 t822.length co87] rfl (by (try simp only [List.map_toArray, List.map_cons, List.map_nil]); first | done | rfl | (simp only [List.length_drop, List.length_take]; rfl)) ?_; (with_reducible refine (impl_IsConfig.calls kj35 _ _ t822 true true _ ?side1 ?side2 A49.out).mono ?_); (case side1 => repeat (first | exact (Kd.R_reads' HO_7.out).2.2 | (with_reducible refine Kd.C_alloc ?_ _) | (with_reducible refine Kd.C_drewN ?_ _) | (with_reducible refine Kd.C_drew ?_))); (case side2 => exact (Kd.R_reads' HO_7.out).2.1); rintro e w88 ⟨rfl, hb⟩; refine ⟨_, rfl, ?_⟩; have n0_ := Aside0.mk (Kd.R_below (by (with_reducible repeat (first | apply Kd.R_alloc | apply Kd.R_drewN | apply Kd.R_drew)); exact HO_5.out) hb); have n1_ := Aside0.mk (Kd.R_below (by (with_reducible repeat (first | apply Kd.R_alloc | apply Kd.R_drewN | apply Kd.R_drew)); exact HO_7.out) hb); have n2_ := Aside0.mk (Kd.R_below (by (with_reducible repeat (first | apply Kd.R_alloc | apply Kd.R_drewN | apply Kd.R_drew)); exact HO_15.out) hb); have n3_ := Aside0.mk (below_step (by repeat (first | (with_reducible first | exact HB.out | apply below_alloc | apply pw_below_drewN | apply below_drew1) | exact HB.out)) hb); clear HO_5; clear HO_7; clear HO_15; clear HB; have HO_5 := n0_; have HO_7 := n1_; have HO_15 := n2_; have HB := n3_; clear n0_ n1_ n2_ n3_; (try clear hb); (try clear hb2); (try clear hk); (try clear hi)) | ((with_reducible refine gate_callee (f := 34) rfl ?_); refine goesL_ (some 137) rfl rfl Try.func34 (by kernel_rfl) rfl #[.slice Ao87 t822.length co87, .int .i64 t819] rfl (by (try simp only [List.map_toArray, List.map_cons, List.map_nil]); first | done | rfl | (simp only [List.length_drop, List.length_take]; rfl)) ?_; (with_reducible refine (impl_SwapCircle.calls kj35 _ _ t822 t819 t846 true _ ?side1 ?side2 A50.out).mono ?_); (case side1 => repeat (first | exact (Kd.R_reads' HO_7.out).2.2 | (with_reducible refine Kd.C_alloc ?_ _) | (with_reducible refine Kd.C_drewN ?_ _) | (with_reducible refine Kd.C_drew ?_))); (case side2 => exact (Kd.R_reads' HO_7.out).2.1); rintro e w89 ⟨v848, rfl, ho0, hb⟩; refine ⟨_, rfl, ?_⟩; have n0_ := Aside0.mk (Kd.R_elder' (by (with_reducible repeat (first | apply Kd.R_alloc | apply Kd.R_drewN | apply Kd.R_drew)); exact HO_5.out) (Kd.R_base ho0) hb); have n1_ := Aside0.mk (Kd.R_elder' (by (with_reducible repeat (first | apply Kd.R_alloc | apply Kd.R_drewN | apply Kd.R_drew)); exact HO_7.out) (Kd.R_base ho0) hb); have n2_ := Aside0.mk (Kd.R_below (by (with_reducible repeat (first | apply Kd.R_alloc | apply Kd.R_drewN | apply Kd.R_drew)); exact HO_15.out) hb); have n3_ := Aside0.mk (Kd.R_lower (Kd.R_new' (Kd.R_new' ho0 (Kd.R_lt (by (with_reducible repeat (first | apply Kd.R_alloc | apply Kd.R_drewN | apply Kd.R_drew)); exact HO_5.out))) (Kd.R_lt (by (with_reducible repeat (first | apply Kd.R_alloc | apply Kd.R_drewN | apply Kd.R_drew)); exact HO_7.out))) (below_size (by repeat (first | (with_reducible first | exact HB.out | apply below_alloc | apply pw_below_drewN | apply below_drew1) | exact HB.out)))); have n4_ := Aside0.mk (below_step (by repeat (first | (with_reducible first | exact HB.out | apply below_alloc | apply pw_below_drewN | apply below_drew1) | exact HB.out)) hb); clear HO_5; clear HO_7; clear HO_15; clear HB; have HO_5 := n0_; have HO_7 := n1_; have HO_15 := n2_; have HO849 := n3_; have HB := n4_; clear n0_ n1_ n2_ n3_ n4_; (try clear hb); (try clear hb2); (try clear hk); (try clear hi); (try clear ho0)) | ((with_reducible refine gate_callee (f := 39) rfl ?_); refine goesL_ (some 142) rfl rfl Try.func39 (by kernel_rfl) rfl #[.slice Ao87 t822.length co87] rfl (by (try simp only [List.map_toArray, List.map_cons, List.map_nil]); first | done | rfl | (simp only [List.length_drop, List.length_take]; rfl)) ?_; (with_reducible refine (impl_CurvaturesOf.calls kj35 _ _ t822 t850 false _ ?side1 ?side2 A51.out).mono ?_); (case side1 => repeat (first | exact (Kd.R_reads' HO_7.out).2.2 | (with_reducible refine Kd.C_alloc ?_ _) | (with_reducible refine Kd.C_drewN ?_ _) | (with_reducible refine Kd.C_drew ?_))); (case side2 => exact (Kd.R_reads' HO_7.out).2.1); rintro e w90 ⟨v852, rfl, ho0, hb⟩; refine ⟨_, rfl, ?_⟩; have n0_ := Aside0.mk (Kd.R_below (by (with_reducible repeat (first | apply Kd.R_alloc | apply Kd.R_drewN | apply Kd.R_drew)); exact HO_5.out) hb); have n1_ := Aside0.mk (Kd.R_below (by (with_reducible repeat (first | apply Kd.R_alloc | apply Kd.R_drewN | apply Kd.R_drew)); exact HO_7.out) hb); have n2_ := Aside0.mk (Kd.R_elder' (by (with_reducible repeat (first | apply Kd.R_alloc | apply Kd.R_drewN | apply Kd.R_drew)); exact HO_15.out) (Kd.R_base ho0) hb); have n3_ := Aside0.mk (Kd.R_below (by (with_reducible repeat (first | apply Kd.R_alloc | apply Kd.R_drewN | apply Kd.R_drew)); exact HO849.out) hb); have n4_ := Aside0.mk (Kd.R_lower (Kd.R_new' ho0 (Kd.R_lt (by (with_reducible repeat (first | apply Kd.R_alloc | apply Kd.R_drewN | apply Kd.R_drew)); exact HO_15.out))) (below_size (by repeat (first | (with_reducible first | exact HB.out | apply below_alloc | apply pw_below_drewN | apply below_drew1) | exact HB.out)))); have n5_ := Aside0.mk (below_step (by repeat (first | (with_reducible first | exact HB.out | apply below_alloc | apply pw_below_drewN | apply below_drew1) | exact HB.out)) hb); clear HO_5; clear HO_7; clear HO_15; clear HO849; clear HB; have HO_5 := n0_; have HO_7 := n1_; have HO_15 := n2_; have HO849 := n3_; have HO853 := n4_; have HB := n5_; clear n0_ n1_ n2_ n3_ n4_ n5_; (try clear hb); (try clear hb2); (try clear hk); (try clear hi); (try clear ho0); obtain ⟨Ao91, co91, eo91⟩ := Kd.R_slice HO_15.out; subst eo91) | ((with_reducible refine gate_callee (f := 41) rfl ?_); refine goesL_ (some 148) rfl rfl Try.func41 (by kernel_rfl) rfl #[.slice Ao91 t835.length co91, .int .i64 t819] rfl (by (try simp only [List.map_toArray, List.map_cons, List.map_nil]); first | done | rfl | (simp only [List.length_drop, List.length_take]; rfl)) ?_; (with_reducible refine (impl_SwapAt.calls kj35 _ _ t835 t819 t854 t855 _ ?side1 ?side2 A52.out).mono ?_); (case side1 => repeat (first | exact (Kd.R_reads' HO_15.out).2.2 | (with_reducible refine Kd.C_alloc ?_ _) | (with_reducible refine Kd.C_drewN ?_ _) | (with_reducible refine Kd.C_drew ?_))); (case side2 => exact (Kd.R_reads' HO_15.out).2.1); rintro e w92 ⟨v856, rfl, ho0, hb⟩; refine ⟨_, rfl, ?_⟩; have n0_ := Aside0.mk (Kd.R_below (by (with_reducible repeat (first | apply Kd.R_alloc | apply Kd.R_drewN | apply Kd.R_drew)); exact HO_5.out) hb); have n1_ := Aside0.mk (Kd.R_below (by (with_reducible repeat (first | apply Kd.R_alloc | apply Kd.R_drewN | apply Kd.R_drew)); exact HO_7.out) hb); have n2_ := Aside0.mk (Kd.R_elder' (by (with_reducible repeat (first | apply Kd.R_alloc | apply Kd.R_drewN | apply Kd.R_drew)); exact HO_15.out) (Kd.R_base ho0) hb); have n3_ := Aside0.mk (Kd.R_below (by (with_reducible repeat (first | apply Kd.R_alloc | apply Kd.R_drewN | apply Kd.R_drew)); exact HO849.out) hb); have n4_ := Aside0.mk (Kd.R_elder' (by (with_reducible repeat (first | apply Kd.R_alloc | apply Kd.R_drewN | apply Kd.R_drew)); exact HO853.out) (Kd.R_base ho0) hb); have n5_ := Aside0.mk (Kd.R_lower (Kd.R_new' (Kd.R_new' ho0 (Kd.R_lt (by (with_reducible repeat (first | apply Kd.R_alloc | apply Kd.R_drewN | apply Kd.R_drew)); exact HO_15.out))) (Kd.R_lt (by (with_reducible repeat (first | apply Kd.R_alloc | apply Kd.R_drewN | apply Kd.R_drew)); exact HO853.out))) (below_size (by repeat (first | (with_reducible first | exact HB.out | apply below_alloc | apply pw_below_drewN | apply below_drew1) | exact HB.out)))); have n6_ := Aside0.mk (below_step (by repeat (first | (with_reducible first | exact HB.out | apply below_alloc | apply pw_below_drewN | apply below_drew1) | exact HB.out)) hb); clear HO_5; clear HO_7; clear HO_15; clear HO849; clear HO853; clear HB; have HO_5 := n0_; have HO_7 := n1_; have HO_15 := n2_; have HO849 := n3_; have HO853 := n4_; have HO857 := n5_; have HB := n6_; clear n0_ n1_ n2_ n3_ n4_ n5_ n6_; (try clear hb); (try clear hb2); (try clear hk); (try clear hi); (try clear ho0); obtain ⟨Ao93, co93, eo93⟩ := Kd.R_slice HO849.out; subst eo93) | (go_at_call 38; (with_reducible refine (laws_dCircles.calls kj35 _ _ t846 _ _ t818 true _ ?side1 ?side2 ?side3 ?side4 A56.out).mono ?_); (case side1 => repeat (first | exact (Kd.R_reads' HO849.out).2.2 | (with_reducible refine Kd.C_alloc ?_ _) | (with_reducible refine Kd.C_drewN ?_ _) | (with_reducible refine Kd.C_drew ?_))); (case side2 => exact (Kd.R_reads' HO849.out).2.1); (case side3 => repeat (first | exact (Kd.R_reads' HO_5.out).2.2 | (with_reducible refine Kd.C_alloc ?_ _) | (with_reducible refine Kd.C_drewN ?_ _) | (with_reducible refine Kd.C_drew ?_))); (case side4 => exact (Kd.R_reads' HO_5.out).2.1); rintro e w' ⟨rfl, ⟨nd, rfl⟩⟩))
               go_ret
               exact ⟨by first | rfl | (simp [errW_none, errW_some] <;> rfl) | (simp [*, errW_none, errW_some] <;> rfl), by repeat (first | (with_reducible first | exact HB.out | apply below_alloc | apply pw_below_drewN | apply below_drew1) | exact HB.out)⟩
             ·
              replace c57 := Bool.eq_false_iff.mpr c57
              subst c57
              have H1 : (some false) = some r := by rw [if_neg (show ¬ (false = true) by decide)] at H; exact H
              clear H
              have H := H1
              clear H1
              obtain rfl := Option.some.inj H
              obtain ⟨Ao94, co94, eo94⟩ := Kd.R_slice HO_7.out
              subst eo94
              go_wp2_with (first | ((with_reducible refine gate_callee (f := 36) rfl ?_); refine goesL_ (some 131) rfl rfl Try.func36 (by kernel_rfl) rfl #[.slice Ao94 t822.length co94] rfl (by (try simp only [List.map_toArray, List.map_cons, List.map_nil]); first | done | rfl | (simp only [List.length_drop, List.length_take]; rfl)) ?_; (with_reducible refine (impl_IsConfig.calls kj35 _ _ t822 true true _ ?side1 ?side2 A49.out).mono ?_); (case side1 => repeat (first | exact (Kd.R_reads' HO_7.out).2.2 | (with_reducible refine Kd.C_alloc ?_ _) | (with_reducible refine Kd.C_drewN ?_ _) | (with_reducible refine Kd.C_drew ?_))); (case side2 => exact (Kd.R_reads' HO_7.out).2.1); rintro e w95 ⟨rfl, hb⟩; refine ⟨_, rfl, ?_⟩; have n0_ := Aside0.mk (Kd.R_below (by (with_reducible repeat (first | apply Kd.R_alloc | apply Kd.R_drewN | apply Kd.R_drew)); exact HO_5.out) hb); have n1_ := Aside0.mk (Kd.R_below (by (with_reducible repeat (first | apply Kd.R_alloc | apply Kd.R_drewN | apply Kd.R_drew)); exact HO_7.out) hb); have n2_ := Aside0.mk (Kd.R_below (by (with_reducible repeat (first | apply Kd.R_alloc | apply Kd.R_drewN | apply Kd.R_drew)); exact HO_15.out) hb); have n3_ := Aside0.mk (below_step (by repeat (first | (with_reducible first | exact HB.out | apply below_alloc | apply pw_below_drewN | apply below_drew1) | exact HB.out)) hb); clear HO_5; clear HO_7; clear HO_15; clear HB; have HO_5 := n0_; have HO_7 := n1_; have HO_15 := n2_; have HB := n3_; clear n0_ n1_ n2_ n3_; (try clear hb); (try clear hb2); (try clear hk); (try clear hi)) | ((with_reducible refine gate_callee (f := 34) rfl ?_); refine goesL_ (some 137) rfl rfl Try.func34 (by kernel_rfl) rfl #[.slice Ao94 t822.length co94, .int .i64 t819] rfl (by (try simp only [List.map_toArray, List.map_cons, List.map_nil]); first | done | rfl | (simp only [List.length_drop, List.length_take]; rfl)) ?_; (with_reducible refine (impl_SwapCircle.calls kj35 _ _ t822 t819 t846 true _ ?side1 ?side2 A50.out).mono ?_); (case side1 => repeat (first | exact (Kd.R_reads' HO_7.out).2.2 | (with_reducible refine Kd.C_alloc ?_ _) | (with_reducible refine Kd.C_drewN ?_ _) | (with_reducible refine Kd.C_drew ?_))); (case side2 => exact (Kd.R_reads' HO_7.out).2.1); rintro e w96 ⟨v848, rfl, ho0, hb⟩; refine ⟨_, rfl, ?_⟩; have n0_ := Aside0.mk (Kd.R_elder' (by (with_reducible repeat (first | apply Kd.R_alloc | apply Kd.R_drewN | apply Kd.R_drew)); exact HO_5.out) (Kd.R_base ho0) hb); have n1_ := Aside0.mk (Kd.R_elder' (by (with_reducible repeat (first | apply Kd.R_alloc | apply Kd.R_drewN | apply Kd.R_drew)); exact HO_7.out) (Kd.R_base ho0) hb); have n2_ := Aside0.mk (Kd.R_below (by (with_reducible repeat (first | apply Kd.R_alloc | apply Kd.R_drewN | apply Kd.R_drew)); exact HO_15.out) hb); have n3_ := Aside0.mk (Kd.R_lower (Kd.R_new' (Kd.R_new' ho0 (Kd.R_lt (by (with_reducible repeat (first | apply Kd.R_alloc | apply Kd.R_drewN | apply Kd.R_drew)); exact HO_5.out))) (Kd.R_lt (by (with_reducible repeat (first | apply Kd.R_alloc | apply Kd.R_drewN | apply Kd.R_drew)); exact HO_7.out))) (below_size (by repeat (first | (with_reducible first | exact HB.out | apply below_alloc | apply pw_below_drewN | apply below_drew1) | exact HB.out)))); have n4_ := Aside0.mk (below_step (by repeat (first | (with_reducible first | exact HB.out | apply below_alloc | apply pw_below_drewN | apply below_drew1) | exact HB.out)) hb); clear HO_5; clear HO_7; clear HO_15; clear HB; have HO_5 := n0_; have HO_7 := n1_; have HO_15 := n2_; have HO849 := n3_; have HB := n4_; clear n0_ n1_ n2_ n3_ n4_; (try clear hb); (try clear hb2); (try clear hk); (try clear hi); (try clear ho0)) | ((with_reducible refine gate_callee (f := 39) rfl ?_); refine goesL_ (some 142) rfl rfl Try.func39 (by kernel_rfl) rfl #[.slice Ao94 t822.length co94] rfl (by (try simp only [List.map_toArray, List.map_cons, List.map_nil]); first | done | rfl | (simp only [List.length_drop, List.length_take]; rfl)) ?_; (with_reducible refine (impl_CurvaturesOf.calls kj35 _ _ t822 t850 t851 _ ?side1 ?side2 A51.out).mono ?_); (case side1 => repeat (first | exact (Kd.R_reads' HO_7.out).2.2 | (with_reducible refine Kd.C_alloc ?_ _) | (with_reducible refine Kd.C_drewN ?_ _) | (with_reducible refine Kd.C_drew ?_))); (case side2 => exact (Kd.R_reads' HO_7.out).2.1); rintro e w97 ⟨v852, rfl, ho0, hb⟩; refine ⟨_, rfl, ?_⟩; have n0_ := Aside0.mk (Kd.R_below (by (with_reducible repeat (first | apply Kd.R_alloc | apply Kd.R_drewN | apply Kd.R_drew)); exact HO_5.out) hb); have n1_ := Aside0.mk (Kd.R_below (by (with_reducible repeat (first | apply Kd.R_alloc | apply Kd.R_drewN | apply Kd.R_drew)); exact HO_7.out) hb); have n2_ := Aside0.mk (Kd.R_elder' (by (with_reducible repeat (first | apply Kd.R_alloc | apply Kd.R_drewN | apply Kd.R_drew)); exact HO_15.out) (Kd.R_base ho0) hb); have n3_ := Aside0.mk (Kd.R_below (by (with_reducible repeat (first | apply Kd.R_alloc | apply Kd.R_drewN | apply Kd.R_drew)); exact HO849.out) hb); have n4_ := Aside0.mk (Kd.R_lower (Kd.R_new' ho0 (Kd.R_lt (by (with_reducible repeat (first | apply Kd.R_alloc | apply Kd.R_drewN | apply Kd.R_drew)); exact HO_15.out))) (below_size (by repeat (first | (with_reducible first | exact HB.out | apply below_alloc | apply pw_below_drewN | apply below_drew1) | exact HB.out)))); have n5_ := Aside0.mk (below_step (by repeat (first | (with_reducible first | exact HB.out | apply below_alloc | apply pw_below_drewN | apply below_drew1) | exact HB.out)) hb); clear HO_5; clear HO_7; clear HO_15; clear HO849; clear HB; have HO_5 := n0_; have HO_7 := n1_; have HO_15 := n2_; have HO849 := n3_; have HO853 := n4_; have HB := n5_; clear n0_ n1_ n2_ n3_ n4_ n5_; (try clear hb); (try clear hb2); (try clear hk); (try clear hi); (try clear ho0); obtain ⟨Ao98, co98, eo98⟩ := Kd.R_slice HO_15.out; subst eo98) | ((with_reducible refine gate_callee (f := 41) rfl ?_); refine goesL_ (some 148) rfl rfl Try.func41 (by kernel_rfl) rfl #[.slice Ao98 t835.length co98, .int .i64 t819] rfl (by (try simp only [List.map_toArray, List.map_cons, List.map_nil]); first | done | rfl | (simp only [List.length_drop, List.length_take]; rfl)) ?_; (with_reducible refine (impl_SwapAt.calls kj35 _ _ t835 t819 t854 t855 _ ?side1 ?side2 A52.out).mono ?_); (case side1 => repeat (first | exact (Kd.R_reads' HO_15.out).2.2 | (with_reducible refine Kd.C_alloc ?_ _) | (with_reducible refine Kd.C_drewN ?_ _) | (with_reducible refine Kd.C_drew ?_))); (case side2 => exact (Kd.R_reads' HO_15.out).2.1); rintro e w99 ⟨v856, rfl, ho0, hb⟩; refine ⟨_, rfl, ?_⟩; have n0_ := Aside0.mk (Kd.R_below (by (with_reducible repeat (first | apply Kd.R_alloc | apply Kd.R_drewN | apply Kd.R_drew)); exact HO_5.out) hb); have n1_ := Aside0.mk (Kd.R_below (by (with_reducible repeat (first | apply Kd.R_alloc | apply Kd.R_drewN | apply Kd.R_drew)); exact HO_7.out) hb); have n2_ := Aside0.mk (Kd.R_elder' (by (with_reducible repeat (first | apply Kd.R_alloc | apply Kd.R_drewN | apply Kd.R_drew)); exact HO_15.out) (Kd.R_base ho0) hb); have n3_ := Aside0.mk (Kd.R_below (by (with_reducible repeat (first | apply Kd.R_alloc | apply Kd.R_drewN | apply Kd.R_drew)); exact HO849.out) hb); have n4_ := Aside0.mk (Kd.R_elder' (by (with_reducible repeat (first | apply Kd.R_alloc | apply Kd.R_drewN | apply Kd.R_drew)); exact HO853.out) (Kd.R_base ho0) hb); have n5_ := Aside0.mk (Kd.R_lower (Kd.R_new' (Kd.R_new' ho0 (Kd.R_lt (by (with_reducible repeat (first | apply Kd.R_alloc | apply Kd.R_drewN | apply Kd.R_drew)); exact HO_15.out))) (Kd.R_lt (by (with_reducible repeat (first | apply Kd.R_alloc | apply Kd.R_drewN | apply Kd.R_drew)); exact HO853.out))) (below_size (by repeat (first | (with_reducible first | exact HB.out | apply below_alloc | apply pw_below_drewN | apply below_drew1) | exact HB.out)))); have n6_ := Aside0.mk (below_step (by repeat (first | (with_reducible first | exact HB.out | apply below_alloc | apply pw_below_drewN | apply below_drew1) | exact HB.out)) hb); clear HO_5; clear HO_7; clear HO_15; clear HO849; clear HO853; clear HB; have HO_5 := n0_; have HO_7 := n1_; have HO_15 := n2_; have HO849 := n3_; have HO853 := n4_; have HO857 := n5_; have HB := n6_; clear n0_ n1_ n2_ n3_ n4_ n5_ n6_; (try clear hb); (try clear hb2); (try clear hk); (try clear hi); (try clear ho0); obtain ⟨Ao100, co100, eo100⟩ := Kd.R_slice HO849.out; subst eo100) | (go_at_call 38; (with_reducible refine (laws_dCircles.calls kj35 _ _ t846 _ _ t818 false _ ?side1 ?side2 ?side3 ?side4 A56.out).mono ?_); (case side1 => repeat (first | exact (Kd.R_reads' HO849.out).2.2 | (with_reducible refine Kd.C_alloc ?_ _) | (with_reducible refine Kd.C_drewN ?_ _) | (with_reducible refine Kd.C_drew ?_))); (case side2 => exact (Kd.R_reads' HO849.out).2.1); (case side3 => repeat (first | exact (Kd.R_reads' HO_5.out).2.2 | (with_reducible refine Kd.C_alloc ?_ _) | (with_reducible refine Kd.C_drewN ?_ _) | (with_reducible refine Kd.C_drew ?_))); (case side4 => exact (Kd.R_reads' HO_5.out).2.1); rintro e w' ⟨rfl, ⟨nd, rfl⟩⟩))
              go_ret
              exact ⟨by first | rfl | (simp [errW_none, errW_some] <;> rfl) | (simp [*, errW_none, errW_some] <;> rfl), by repeat (first | (with_reducible first | exact HB.out | apply below_alloc | apply pw_below_drewN | apply below_drew1) | exact HB.out)⟩
            ·
             replace c55 := Bool.eq_false_iff.mpr c55
             subst c55
             have H1 : (some false) = some r := by rw [if_neg (show ¬ (false = true) by decide)] at H; exact H
             clear H
             have H := H1
             clear H1
             obtain rfl := Option.some.inj H
             obtain ⟨Ao101, co101, eo101⟩ := Kd.R_slice HO_7.out
             subst eo101
             go_wp2_with (first | ((with_reducible refine gate_callee (f := 36) rfl ?_); refine goesL_ (some 131) rfl rfl Try.func36 (by kernel_rfl) rfl #[.slice Ao101 t822.length co101] rfl (by (try simp only [List.map_toArray, List.map_cons, List.map_nil]); first | done | rfl | (simp only [List.length_drop, List.length_take]; rfl)) ?_; (with_reducible refine (impl_IsConfig.calls kj35 _ _ t822 true true _ ?side1 ?side2 A49.out).mono ?_); (case side1 => repeat (first | exact (Kd.R_reads' HO_7.out).2.2 | (with_reducible refine Kd.C_alloc ?_ _) | (with_reducible refine Kd.C_drewN ?_ _) | (with_reducible refine Kd.C_drew ?_))); (case side2 => exact (Kd.R_reads' HO_7.out).2.1); rintro e w102 ⟨rfl, hb⟩; refine ⟨_, rfl, ?_⟩; have n0_ := Aside0.mk (Kd.R_below (by (with_reducible repeat (first | apply Kd.R_alloc | apply Kd.R_drewN | apply Kd.R_drew)); exact HO_5.out) hb); have n1_ := Aside0.mk (Kd.R_below (by (with_reducible repeat (first | apply Kd.R_alloc | apply Kd.R_drewN | apply Kd.R_drew)); exact HO_7.out) hb); have n2_ := Aside0.mk (Kd.R_below (by (with_reducible repeat (first | apply Kd.R_alloc | apply Kd.R_drewN | apply Kd.R_drew)); exact HO_15.out) hb); have n3_ := Aside0.mk (below_step (by repeat (first | (with_reducible first | exact HB.out | apply below_alloc | apply pw_below_drewN | apply below_drew1) | exact HB.out)) hb); clear HO_5; clear HO_7; clear HO_15; clear HB; have HO_5 := n0_; have HO_7 := n1_; have HO_15 := n2_; have HB := n3_; clear n0_ n1_ n2_ n3_; (try clear hb); (try clear hb2); (try clear hk); (try clear hi)) | ((with_reducible refine gate_callee (f := 34) rfl ?_); refine goesL_ (some 137) rfl rfl Try.func34 (by kernel_rfl) rfl #[.slice Ao101 t822.length co101, .int .i64 t819] rfl (by (try simp only [List.map_toArray, List.map_cons, List.map_nil]); first | done | rfl | (simp only [List.length_drop, List.length_take]; rfl)) ?_; (with_reducible refine (impl_SwapCircle.calls kj35 _ _ t822 t819 t846 false _ ?side1 ?side2 A50.out).mono ?_); (case side1 => repeat (first | exact (Kd.R_reads' HO_7.out).2.2 | (with_reducible refine Kd.C_alloc ?_ _) | (with_reducible refine Kd.C_drewN ?_ _) | (with_reducible refine Kd.C_drew ?_))); (case side2 => exact (Kd.R_reads' HO_7.out).2.1); rintro e w103 ⟨v848, rfl, ho0, hb⟩; refine ⟨_, rfl, ?_⟩; have n0_ := Aside0.mk (Kd.R_elder' (by (with_reducible repeat (first | apply Kd.R_alloc | apply Kd.R_drewN | apply Kd.R_drew)); exact HO_5.out) (Kd.R_base ho0) hb); have n1_ := Aside0.mk (Kd.R_elder' (by (with_reducible repeat (first | apply Kd.R_alloc | apply Kd.R_drewN | apply Kd.R_drew)); exact HO_7.out) (Kd.R_base ho0) hb); have n2_ := Aside0.mk (Kd.R_below (by (with_reducible repeat (first | apply Kd.R_alloc | apply Kd.R_drewN | apply Kd.R_drew)); exact HO_15.out) hb); have n3_ := Aside0.mk (Kd.R_lower (Kd.R_new' (Kd.R_new' ho0 (Kd.R_lt (by (with_reducible repeat (first | apply Kd.R_alloc | apply Kd.R_drewN | apply Kd.R_drew)); exact HO_5.out))) (Kd.R_lt (by (with_reducible repeat (first | apply Kd.R_alloc | apply Kd.R_drewN | apply Kd.R_drew)); exact HO_7.out))) (below_size (by repeat (first | (with_reducible first | exact HB.out | apply below_alloc | apply pw_below_drewN | apply below_drew1) | exact HB.out)))); have n4_ := Aside0.mk (below_step (by repeat (first | (with_reducible first | exact HB.out | apply below_alloc | apply pw_below_drewN | apply below_drew1) | exact HB.out)) hb); clear HO_5; clear HO_7; clear HO_15; clear HB; have HO_5 := n0_; have HO_7 := n1_; have HO_15 := n2_; have HO849 := n3_; have HB := n4_; clear n0_ n1_ n2_ n3_ n4_; (try clear hb); (try clear hb2); (try clear hk); (try clear hi); (try clear ho0)) | ((with_reducible refine gate_callee (f := 39) rfl ?_); refine goesL_ (some 142) rfl rfl Try.func39 (by kernel_rfl) rfl #[.slice Ao101 t822.length co101] rfl (by (try simp only [List.map_toArray, List.map_cons, List.map_nil]); first | done | rfl | (simp only [List.length_drop, List.length_take]; rfl)) ?_; (with_reducible refine (impl_CurvaturesOf.calls kj35 _ _ t822 t850 t851 _ ?side1 ?side2 A51.out).mono ?_); (case side1 => repeat (first | exact (Kd.R_reads' HO_7.out).2.2 | (with_reducible refine Kd.C_alloc ?_ _) | (with_reducible refine Kd.C_drewN ?_ _) | (with_reducible refine Kd.C_drew ?_))); (case side2 => exact (Kd.R_reads' HO_7.out).2.1); rintro e w104 ⟨v852, rfl, ho0, hb⟩; refine ⟨_, rfl, ?_⟩; have n0_ := Aside0.mk (Kd.R_below (by (with_reducible repeat (first | apply Kd.R_alloc | apply Kd.R_drewN | apply Kd.R_drew)); exact HO_5.out) hb); have n1_ := Aside0.mk (Kd.R_below (by (with_reducible repeat (first | apply Kd.R_alloc | apply Kd.R_drewN | apply Kd.R_drew)); exact HO_7.out) hb); have n2_ := Aside0.mk (Kd.R_elder' (by (with_reducible repeat (first | apply Kd.R_alloc | apply Kd.R_drewN | apply Kd.R_drew)); exact HO_15.out) (Kd.R_base ho0) hb); have n3_ := Aside0.mk (Kd.R_below (by (with_reducible repeat (first | apply Kd.R_alloc | apply Kd.R_drewN | apply Kd.R_drew)); exact HO849.out) hb); have n4_ := Aside0.mk (Kd.R_lower (Kd.R_new' ho0 (Kd.R_lt (by (with_reducible repeat (first | apply Kd.R_alloc | apply Kd.R_drewN | apply Kd.R_drew)); exact HO_15.out))) (below_size (by repeat (first | (with_reducible first | exact HB.out | apply below_alloc | apply pw_below_drewN | apply below_drew1) | exact HB.out)))); have n5_ := Aside0.mk (below_step (by repeat (first | (with_reducible first | exact HB.out | apply below_alloc | apply pw_below_drewN | apply below_drew1) | exact HB.out)) hb); clear HO_5; clear HO_7; clear HO_15; clear HO849; clear HB; have HO_5 := n0_; have HO_7 := n1_; have HO_15 := n2_; have HO849 := n3_; have HO853 := n4_; have HB := n5_; clear n0_ n1_ n2_ n3_ n4_ n5_; (try clear hb); (try clear hb2); (try clear hk); (try clear hi); (try clear ho0); obtain ⟨Ao105, co105, eo105⟩ := Kd.R_slice HO_15.out; subst eo105) | ((with_reducible refine gate_callee (f := 41) rfl ?_); refine goesL_ (some 148) rfl rfl Try.func41 (by kernel_rfl) rfl #[.slice Ao105 t835.length co105, .int .i64 t819] rfl (by (try simp only [List.map_toArray, List.map_cons, List.map_nil]); first | done | rfl | (simp only [List.length_drop, List.length_take]; rfl)) ?_; (with_reducible refine (impl_SwapAt.calls kj35 _ _ t835 t819 t854 t855 _ ?side1 ?side2 A52.out).mono ?_); (case side1 => repeat (first | exact (Kd.R_reads' HO_15.out).2.2 | (with_reducible refine Kd.C_alloc ?_ _) | (with_reducible refine Kd.C_drewN ?_ _) | (with_reducible refine Kd.C_drew ?_))); (case side2 => exact (Kd.R_reads' HO_15.out).2.1); rintro e w106 ⟨v856, rfl, ho0, hb⟩; refine ⟨_, rfl, ?_⟩; have n0_ := Aside0.mk (Kd.R_below (by (with_reducible repeat (first | apply Kd.R_alloc | apply Kd.R_drewN | apply Kd.R_drew)); exact HO_5.out) hb); have n1_ := Aside0.mk (Kd.R_below (by (with_reducible repeat (first | apply Kd.R_alloc | apply Kd.R_drewN | apply Kd.R_drew)); exact HO_7.out) hb); have n2_ := Aside0.mk (Kd.R_elder' (by (with_reducible repeat (first | apply Kd.R_alloc | apply Kd.R_drewN | apply Kd.R_drew)); exact HO_15.out) (Kd.R_base ho0) hb); have n3_ := Aside0.mk (Kd.R_below (by (with_reducible repeat (first | apply Kd.R_alloc | apply Kd.R_drewN | apply Kd.R_drew)); exact HO849.out) hb); have n4_ := Aside0.mk (Kd.R_elder' (by (with_reducible repeat (first | apply Kd.R_alloc | apply Kd.R_drewN | apply Kd.R_drew)); exact HO853.out) (Kd.R_base ho0) hb); have n5_ := Aside0.mk (Kd.R_lower (Kd.R_new' (Kd.R_new' ho0 (Kd.R_lt (by (with_reducible repeat (first | apply Kd.R_alloc | apply Kd.R_drewN | apply Kd.R_drew)); exact HO_15.out))) (Kd.R_lt (by (with_reducible repeat (first | apply Kd.R_alloc | apply Kd.R_drewN | apply Kd.R_drew)); exact HO853.out))) (below_size (by repeat (first | (with_reducible first | exact HB.out | apply below_alloc | apply pw_below_drewN | apply below_drew1) | exact HB.out)))); have n6_ := Aside0.mk (below_step (by repeat (first | (with_reducible first | exact HB.out | apply below_alloc | apply pw_below_drewN | apply below_drew1) | exact HB.out)) hb); clear HO_5; clear HO_7; clear HO_15; clear HO849; clear HO853; clear HB; have HO_5 := n0_; have HO_7 := n1_; have HO_15 := n2_; have HO849 := n3_; have HO853 := n4_; have HO857 := n5_; have HB := n6_; clear n0_ n1_ n2_ n3_ n4_ n5_ n6_; (try clear hb); (try clear hb2); (try clear hk); (try clear hi); (try clear ho0)))
             go_ret
             exact ⟨by first | rfl | (simp [errW_none, errW_some] <;> rfl) | (simp [*, errW_none, errW_some] <;> rfl), by repeat (first | (with_reducible first | exact HB.out | apply below_alloc | apply pw_below_drewN | apply below_drew1) | exact HB.out)⟩
           ·
            replace c54 := Bool.eq_false_iff.mpr c54
            subst c54
            have H1 : (some false) = some r := by rw [if_neg (show ¬ (false = true) by decide)] at H; exact H
            clear H
            have H := H1
            clear H1
            obtain rfl := Option.some.inj H
            obtain ⟨Ao107, co107, eo107⟩ := Kd.R_slice HO_7.out
            subst eo107
            go_wp2_with (first | ((with_reducible refine gate_callee (f := 36) rfl ?_); refine goesL_ (some 131) rfl rfl Try.func36 (by kernel_rfl) rfl #[.slice Ao107 t822.length co107] rfl (by (try simp only [List.map_toArray, List.map_cons, List.map_nil]); first | done | rfl | (simp only [List.length_drop, List.length_take]; rfl)) ?_; (with_reducible refine (impl_IsConfig.calls kj35 _ _ t822 false true _ ?side1 ?side2 A49.out).mono ?_); (case side1 => repeat (first | exact (Kd.R_reads' HO_7.out).2.2 | (with_reducible refine Kd.C_alloc ?_ _) | (with_reducible refine Kd.C_drewN ?_ _) | (with_reducible refine Kd.C_drew ?_))); (case side2 => exact (Kd.R_reads' HO_7.out).2.1); rintro e w108 ⟨rfl, hb⟩; refine ⟨_, rfl, ?_⟩; have n0_ := Aside0.mk (Kd.R_below (by (with_reducible repeat (first | apply Kd.R_alloc | apply Kd.R_drewN | apply Kd.R_drew)); exact HO_5.out) hb); have n1_ := Aside0.mk (Kd.R_below (by (with_reducible repeat (first | apply Kd.R_alloc | apply Kd.R_drewN | apply Kd.R_drew)); exact HO_7.out) hb); have n2_ := Aside0.mk (Kd.R_below (by (with_reducible repeat (first | apply Kd.R_alloc | apply Kd.R_drewN | apply Kd.R_drew)); exact HO_15.out) hb); have n3_ := Aside0.mk (below_step (by repeat (first | (with_reducible first | exact HB.out | apply below_alloc | apply pw_below_drewN | apply below_drew1) | exact HB.out)) hb); clear HO_5; clear HO_7; clear HO_15; clear HB; have HO_5 := n0_; have HO_7 := n1_; have HO_15 := n2_; have HB := n3_; clear n0_ n1_ n2_ n3_; (try clear hb); (try clear hb2); (try clear hk); (try clear hi)) | ((with_reducible refine gate_callee (f := 34) rfl ?_); refine goesL_ (some 137) rfl rfl Try.func34 (by kernel_rfl) rfl #[.slice Ao107 t822.length co107, .int .i64 t819] rfl (by (try simp only [List.map_toArray, List.map_cons, List.map_nil]); first | done | rfl | (simp only [List.length_drop, List.length_take]; rfl)) ?_; (with_reducible refine (impl_SwapCircle.calls kj35 _ _ t822 t819 t846 t847 _ ?side1 ?side2 A50.out).mono ?_); (case side1 => repeat (first | exact (Kd.R_reads' HO_7.out).2.2 | (with_reducible refine Kd.C_alloc ?_ _) | (with_reducible refine Kd.C_drewN ?_ _) | (with_reducible refine Kd.C_drew ?_))); (case side2 => exact (Kd.R_reads' HO_7.out).2.1); rintro e w109 ⟨v848, rfl, ho0, hb⟩; refine ⟨_, rfl, ?_⟩; have n0_ := Aside0.mk (Kd.R_elder' (by (with_reducible repeat (first | apply Kd.R_alloc | apply Kd.R_drewN | apply Kd.R_drew)); exact HO_5.out) (Kd.R_base ho0) hb); have n1_ := Aside0.mk (Kd.R_elder' (by (with_reducible repeat (first | apply Kd.R_alloc | apply Kd.R_drewN | apply Kd.R_drew)); exact HO_7.out) (Kd.R_base ho0) hb); have n2_ := Aside0.mk (Kd.R_below (by (with_reducible repeat (first | apply Kd.R_alloc | apply Kd.R_drewN | apply Kd.R_drew)); exact HO_15.out) hb); have n3_ := Aside0.mk (Kd.R_lower (Kd.R_new' (Kd.R_new' ho0 (Kd.R_lt (by (with_reducible repeat (first | apply Kd.R_alloc | apply Kd.R_drewN | apply Kd.R_drew)); exact HO_5.out))) (Kd.R_lt (by (with_reducible repeat (first | apply Kd.R_alloc | apply Kd.R_drewN | apply Kd.R_drew)); exact HO_7.out))) (below_size (by repeat (first | (with_reducible first | exact HB.out | apply below_alloc | apply pw_below_drewN | apply below_drew1) | exact HB.out)))); have n4_ := Aside0.mk (below_step (by repeat (first | (with_reducible first | exact HB.out | apply below_alloc | apply pw_below_drewN | apply below_drew1) | exact HB.out)) hb); clear HO_5; clear HO_7; clear HO_15; clear HB; have HO_5 := n0_; have HO_7 := n1_; have HO_15 := n2_; have HO849 := n3_; have HB := n4_; clear n0_ n1_ n2_ n3_ n4_; (try clear hb); (try clear hb2); (try clear hk); (try clear hi); (try clear ho0)) | ((with_reducible refine gate_callee (f := 39) rfl ?_); refine goesL_ (some 142) rfl rfl Try.func39 (by kernel_rfl) rfl #[.slice Ao107 t822.length co107] rfl (by (try simp only [List.map_toArray, List.map_cons, List.map_nil]); first | done | rfl | (simp only [List.length_drop, List.length_take]; rfl)) ?_; (with_reducible refine (impl_CurvaturesOf.calls kj35 _ _ t822 t850 t851 _ ?side1 ?side2 A51.out).mono ?_); (case side1 => repeat (first | exact (Kd.R_reads' HO_7.out).2.2 | (with_reducible refine Kd.C_alloc ?_ _) | (with_reducible refine Kd.C_drewN ?_ _) | (with_reducible refine Kd.C_drew ?_))); (case side2 => exact (Kd.R_reads' HO_7.out).2.1); rintro e w110 ⟨v852, rfl, ho0, hb⟩; refine ⟨_, rfl, ?_⟩; have n0_ := Aside0.mk (Kd.R_below (by (with_reducible repeat (first | apply Kd.R_alloc | apply Kd.R_drewN | apply Kd.R_drew)); exact HO_5.out) hb); have n1_ := Aside0.mk (Kd.R_below (by (with_reducible repeat (first | apply Kd.R_alloc | apply Kd.R_drewN | apply Kd.R_drew)); exact HO_7.out) hb); have n2_ := Aside0.mk (Kd.R_elder' (by (with_reducible repeat (first | apply Kd.R_alloc | apply Kd.R_drewN | apply Kd.R_drew)); exact HO_15.out) (Kd.R_base ho0) hb); have n3_ := Aside0.mk (Kd.R_below (by (with_reducible repeat (first | apply Kd.R_alloc | apply Kd.R_drewN | apply Kd.R_drew)); exact HO849.out) hb); have n4_ := Aside0.mk (Kd.R_lower (Kd.R_new' ho0 (Kd.R_lt (by (with_reducible repeat (first | apply Kd.R_alloc | apply Kd.R_drewN | apply Kd.R_drew)); exact HO_15.out))) (below_size (by repeat (first | (with_reducible first | exact HB.out | apply below_alloc | apply pw_below_drewN | apply below_drew1) | exact HB.out)))); have n5_ := Aside0.mk (below_step (by repeat (first | (with_reducible first | exact HB.out | apply below_alloc | apply pw_below_drewN | apply below_drew1) | exact HB.out)) hb); clear HO_5; clear HO_7; clear HO_15; clear HO849; clear HB; have HO_5 := n0_; have HO_7 := n1_; have HO_15 := n2_; have HO849 := n3_; have HO853 := n4_; have HB := n5_; clear n0_ n1_ n2_ n3_ n4_ n5_; (try clear hb); (try clear hb2); (try clear hk); (try clear hi); (try clear ho0); obtain ⟨Ao111, co111, eo111⟩ := Kd.R_slice HO_15.out; subst eo111) | ((with_reducible refine gate_callee (f := 41) rfl ?_); refine goesL_ (some 148) rfl rfl Try.func41 (by kernel_rfl) rfl #[.slice Ao111 t835.length co111, .int .i64 t819] rfl (by (try simp only [List.map_toArray, List.map_cons, List.map_nil]); first | done | rfl | (simp only [List.length_drop, List.length_take]; rfl)) ?_; (with_reducible refine (impl_SwapAt.calls kj35 _ _ t835 t819 t854 t855 _ ?side1 ?side2 A52.out).mono ?_); (case side1 => repeat (first | exact (Kd.R_reads' HO_15.out).2.2 | (with_reducible refine Kd.C_alloc ?_ _) | (with_reducible refine Kd.C_drewN ?_ _) | (with_reducible refine Kd.C_drew ?_))); (case side2 => exact (Kd.R_reads' HO_15.out).2.1); rintro e w112 ⟨v856, rfl, ho0, hb⟩; refine ⟨_, rfl, ?_⟩; have n0_ := Aside0.mk (Kd.R_below (by (with_reducible repeat (first | apply Kd.R_alloc | apply Kd.R_drewN | apply Kd.R_drew)); exact HO_5.out) hb); have n1_ := Aside0.mk (Kd.R_below (by (with_reducible repeat (first | apply Kd.R_alloc | apply Kd.R_drewN | apply Kd.R_drew)); exact HO_7.out) hb); have n2_ := Aside0.mk (Kd.R_elder' (by (with_reducible repeat (first | apply Kd.R_alloc | apply Kd.R_drewN | apply Kd.R_drew)); exact HO_15.out) (Kd.R_base ho0) hb); have n3_ := Aside0.mk (Kd.R_below (by (with_reducible repeat (first | apply Kd.R_alloc | apply Kd.R_drewN | apply Kd.R_drew)); exact HO849.out) hb); have n4_ := Aside0.mk (Kd.R_elder' (by (with_reducible repeat (first | apply Kd.R_alloc | apply Kd.R_drewN | apply Kd.R_drew)); exact HO853.out) (Kd.R_base ho0) hb); have n5_ := Aside0.mk (Kd.R_lower (Kd.R_new' (Kd.R_new' ho0 (Kd.R_lt (by (with_reducible repeat (first | apply Kd.R_alloc | apply Kd.R_drewN | apply Kd.R_drew)); exact HO_15.out))) (Kd.R_lt (by (with_reducible repeat (first | apply Kd.R_alloc | apply Kd.R_drewN | apply Kd.R_drew)); exact HO853.out))) (below_size (by repeat (first | (with_reducible first | exact HB.out | apply below_alloc | apply pw_below_drewN | apply below_drew1) | exact HB.out)))); have n6_ := Aside0.mk (below_step (by repeat (first | (with_reducible first | exact HB.out | apply below_alloc | apply pw_below_drewN | apply below_drew1) | exact HB.out)) hb); clear HO_5; clear HO_7; clear HO_15; clear HO849; clear HO853; clear HB; have HO_5 := n0_; have HO_7 := n1_; have HO_15 := n2_; have HO849 := n3_; have HO853 := n4_; have HO857 := n5_; have HB := n6_; clear n0_ n1_ n2_ n3_ n4_ n5_ n6_; (try clear hb); (try clear hb2); (try clear hk); (try clear hi); (try clear ho0)))
            go_ret
            exact ⟨by first | rfl | (simp [errW_none, errW_some] <;> rfl) | (simp [*, errW_none, errW_some] <;> rfl), by repeat (first | (with_reducible first | exact HB.out | apply below_alloc | apply pw_below_drewN | apply below_drew1) | exact HB.out)⟩
          ·
           replace c53 := Bool.eq_false_iff.mpr c53
           subst c53
           have H1 : (some false) = some r := by rw [if_neg (show ¬ (false = true) by decide)] at H; exact H
           clear H
           have H := H1
           clear H1
           obtain rfl := Option.some.inj H
           obtain ⟨Ao113, co113, eo113⟩ := Kd.R_slice HO_7.out
           subst eo113
           go_wp2_with (first | ((with_reducible refine gate_callee (f := 36) rfl ?_); refine goesL_ (some 131) rfl rfl Try.func36 (by kernel_rfl) rfl #[.slice Ao113 t822.length co113] rfl (by (try simp only [List.map_toArray, List.map_cons, List.map_nil]); first | done | rfl | (simp only [List.length_drop, List.length_take]; rfl)) ?_; (with_reducible refine (impl_IsConfig.calls kj35 _ _ t822 t844 false _ ?side1 ?side2 A49.out).mono ?_); (case side1 => repeat (first | exact (Kd.R_reads' HO_7.out).2.2 | (with_reducible refine Kd.C_alloc ?_ _) | (with_reducible refine Kd.C_drewN ?_ _) | (with_reducible refine Kd.C_drew ?_))); (case side2 => exact (Kd.R_reads' HO_7.out).2.1); rintro e w114 ⟨rfl, hb⟩; refine ⟨_, rfl, ?_⟩; have n0_ := Aside0.mk (Kd.R_below (by (with_reducible repeat (first | apply Kd.R_alloc | apply Kd.R_drewN | apply Kd.R_drew)); exact HO_5.out) hb); have n1_ := Aside0.mk (Kd.R_below (by (with_reducible repeat (first | apply Kd.R_alloc | apply Kd.R_drewN | apply Kd.R_drew)); exact HO_7.out) hb); have n2_ := Aside0.mk (Kd.R_below (by (with_reducible repeat (first | apply Kd.R_alloc | apply Kd.R_drewN | apply Kd.R_drew)); exact HO_15.out) hb); have n3_ := Aside0.mk (below_step (by repeat (first | (with_reducible first | exact HB.out | apply below_alloc | apply pw_below_drewN | apply below_drew1) | exact HB.out)) hb); clear HO_5; clear HO_7; clear HO_15; clear HB; have HO_5 := n0_; have HO_7 := n1_; have HO_15 := n2_; have HB := n3_; clear n0_ n1_ n2_ n3_; (try clear hb); (try clear hb2); (try clear hk); (try clear hi)) | ((with_reducible refine gate_callee (f := 34) rfl ?_); refine goesL_ (some 137) rfl rfl Try.func34 (by kernel_rfl) rfl #[.slice Ao113 t822.length co113, .int .i64 t819] rfl (by (try simp only [List.map_toArray, List.map_cons, List.map_nil]); first | done | rfl | (simp only [List.length_drop, List.length_take]; rfl)) ?_; (with_reducible refine (impl_SwapCircle.calls kj35 _ _ t822 t819 t846 t847 _ ?side1 ?side2 A50.out).mono ?_); (case side1 => repeat (first | exact (Kd.R_reads' HO_7.out).2.2 | (with_reducible refine Kd.C_alloc ?_ _) | (with_reducible refine Kd.C_drewN ?_ _) | (with_reducible refine Kd.C_drew ?_))); (case side2 => exact (Kd.R_reads' HO_7.out).2.1); rintro e w115 ⟨v848, rfl, ho0, hb⟩; refine ⟨_, rfl, ?_⟩; have n0_ := Aside0.mk (Kd.R_elder' (by (with_reducible repeat (first | apply Kd.R_alloc | apply Kd.R_drewN | apply Kd.R_drew)); exact HO_5.out) (Kd.R_base ho0) hb); have n1_ := Aside0.mk (Kd.R_elder' (by (with_reducible repeat (first | apply Kd.R_alloc | apply Kd.R_drewN | apply Kd.R_drew)); exact HO_7.out) (Kd.R_base ho0) hb); have n2_ := Aside0.mk (Kd.R_below (by (with_reducible repeat (first | apply Kd.R_alloc | apply Kd.R_drewN | apply Kd.R_drew)); exact HO_15.out) hb); have n3_ := Aside0.mk (Kd.R_lower (Kd.R_new' (Kd.R_new' ho0 (Kd.R_lt (by (with_reducible repeat (first | apply Kd.R_alloc | apply Kd.R_drewN | apply Kd.R_drew)); exact HO_5.out))) (Kd.R_lt (by (with_reducible repeat (first | apply Kd.R_alloc | apply Kd.R_drewN | apply Kd.R_drew)); exact HO_7.out))) (below_size (by repeat (first | (with_reducible first | exact HB.out | apply below_alloc | apply pw_below_drewN | apply below_drew1) | exact HB.out)))); have n4_ := Aside0.mk (below_step (by repeat (first | (with_reducible first | exact HB.out | apply below_alloc | apply pw_below_drewN | apply below_drew1) | exact HB.out)) hb); clear HO_5; clear HO_7; clear HO_15; clear HB; have HO_5 := n0_; have HO_7 := n1_; have HO_15 := n2_; have HO849 := n3_; have HB := n4_; clear n0_ n1_ n2_ n3_ n4_; (try clear hb); (try clear hb2); (try clear hk); (try clear hi); (try clear ho0)) | ((with_reducible refine gate_callee (f := 39) rfl ?_); refine goesL_ (some 142) rfl rfl Try.func39 (by kernel_rfl) rfl #[.slice Ao113 t822.length co113] rfl (by (try simp only [List.map_toArray, List.map_cons, List.map_nil]); first | done | rfl | (simp only [List.length_drop, List.length_take]; rfl)) ?_; (with_reducible refine (impl_CurvaturesOf.calls kj35 _ _ t822 t850 t851 _ ?side1 ?side2 A51.out).mono ?_); (case side1 => repeat (first | exact (Kd.R_reads' HO_7.out).2.2 | (with_reducible refine Kd.C_alloc ?_ _) | (with_reducible refine Kd.C_drewN ?_ _) | (with_reducible refine Kd.C_drew ?_))); (case side2 => exact (Kd.R_reads' HO_7.out).2.1); rintro e w116 ⟨v852, rfl, ho0, hb⟩; refine ⟨_, rfl, ?_⟩; have n0_ := Aside0.mk (Kd.R_below (by (with_reducible repeat (first | apply Kd.R_alloc | apply Kd.R_drewN | apply Kd.R_drew)); exact HO_5.out) hb); have n1_ := Aside0.mk (Kd.R_below (by (with_reducible repeat (first | apply Kd.R_alloc | apply Kd.R_drewN | apply Kd.R_drew)); exact HO_7.out) hb); have n2_ := Aside0.mk (Kd.R_elder' (by (with_reducible repeat (first | apply Kd.R_alloc | apply Kd.R_drewN | apply Kd.R_drew)); exact HO_15.out) (Kd.R_base ho0) hb); have n3_ := Aside0.mk (Kd.R_below (by (with_reducible repeat (first | apply Kd.R_alloc | apply Kd.R_drewN | apply Kd.R_drew)); exact HO849.out) hb); have n4_ := Aside0.mk (Kd.R_lower (Kd.R_new' ho0 (Kd.R_lt (by (with_reducible repeat (first | apply Kd.R_alloc | apply Kd.R_drewN | apply Kd.R_drew)); exact HO_15.out))) (below_size (by repeat (first | (with_reducible first | exact HB.out | apply below_alloc | apply pw_below_drewN | apply below_drew1) | exact HB.out)))); have n5_ := Aside0.mk (below_step (by repeat (first | (with_reducible first | exact HB.out | apply below_alloc | apply pw_below_drewN | apply below_drew1) | exact HB.out)) hb); clear HO_5; clear HO_7; clear HO_15; clear HO849; clear HB; have HO_5 := n0_; have HO_7 := n1_; have HO_15 := n2_; have HO849 := n3_; have HO853 := n4_; have HB := n5_; clear n0_ n1_ n2_ n3_ n4_ n5_; (try clear hb); (try clear hb2); (try clear hk); (try clear hi); (try clear ho0); obtain ⟨Ao117, co117, eo117⟩ := Kd.R_slice HO_15.out; subst eo117) | ((with_reducible refine gate_callee (f := 41) rfl ?_); refine goesL_ (some 148) rfl rfl Try.func41 (by kernel_rfl) rfl #[.slice Ao117 t835.length co117, .int .i64 t819] rfl (by (try simp only [List.map_toArray, List.map_cons, List.map_nil]); first | done | rfl | (simp only [List.length_drop, List.length_take]; rfl)) ?_; (with_reducible refine (impl_SwapAt.calls kj35 _ _ t835 t819 t854 t855 _ ?side1 ?side2 A52.out).mono ?_); (case side1 => repeat (first | exact (Kd.R_reads' HO_15.out).2.2 | (with_reducible refine Kd.C_alloc ?_ _) | (with_reducible refine Kd.C_drewN ?_ _) | (with_reducible refine Kd.C_drew ?_))); (case side2 => exact (Kd.R_reads' HO_15.out).2.1); rintro e w118 ⟨v856, rfl, ho0, hb⟩; refine ⟨_, rfl, ?_⟩; have n0_ := Aside0.mk (Kd.R_below (by (with_reducible repeat (first | apply Kd.R_alloc | apply Kd.R_drewN | apply Kd.R_drew)); exact HO_5.out) hb); have n1_ := Aside0.mk (Kd.R_below (by (with_reducible repeat (first | apply Kd.R_alloc | apply Kd.R_drewN | apply Kd.R_drew)); exact HO_7.out) hb); have n2_ := Aside0.mk (Kd.R_elder' (by (with_reducible repeat (first | apply Kd.R_alloc | apply Kd.R_drewN | apply Kd.R_drew)); exact HO_15.out) (Kd.R_base ho0) hb); have n3_ := Aside0.mk (Kd.R_below (by (with_reducible repeat (first | apply Kd.R_alloc | apply Kd.R_drewN | apply Kd.R_drew)); exact HO849.out) hb); have n4_ := Aside0.mk (Kd.R_elder' (by (with_reducible repeat (first | apply Kd.R_alloc | apply Kd.R_drewN | apply Kd.R_drew)); exact HO853.out) (Kd.R_base ho0) hb); have n5_ := Aside0.mk (Kd.R_lower (Kd.R_new' (Kd.R_new' ho0 (Kd.R_lt (by (with_reducible repeat (first | apply Kd.R_alloc | apply Kd.R_drewN | apply Kd.R_drew)); exact HO_15.out))) (Kd.R_lt (by (with_reducible repeat (first | apply Kd.R_alloc | apply Kd.R_drewN | apply Kd.R_drew)); exact HO853.out))) (below_size (by repeat (first | (with_reducible first | exact HB.out | apply below_alloc | apply pw_below_drewN | apply below_drew1) | exact HB.out)))); have n6_ := Aside0.mk (below_step (by repeat (first | (with_reducible first | exact HB.out | apply below_alloc | apply pw_below_drewN | apply below_drew1) | exact HB.out)) hb); clear HO_5; clear HO_7; clear HO_15; clear HO849; clear HO853; clear HB; have HO_5 := n0_; have HO_7 := n1_; have HO_15 := n2_; have HO849 := n3_; have HO853 := n4_; have HO857 := n5_; have HB := n6_; clear n0_ n1_ n2_ n3_ n4_ n5_ n6_; (try clear hb); (try clear hb2); (try clear hk); (try clear hi); (try clear ho0)))
           go_ret
           exact ⟨by first | rfl | (simp [errW_none, errW_some] <;> rfl) | (simp [*, errW_none, errW_some] <;> rfl), by repeat (first | (with_reducible first | exact HB.out | apply below_alloc | apply pw_below_drewN | apply below_drew1) | exact HB.out)⟩
         ·
          replace c48 := Bool.eq_false_iff.mpr c48
          subst c48
          have H1 : (laws_FnConfigurations.j2 kj35 l1) = some r := by rw [if_neg (show ¬ (false = true) by decide)] at H; exact H
          clear H
          have H := H1
          clear H1
          have H' := Aside0.mk H
          clear H
          go_wp2
          go_meet
          case rel => exact ⟨_, H', ⟨by have := HJ9.out; have := HJ35.out; first | omega | exact Nat.le_refl _⟩, ⟨by repeat (first | (with_reducible first | exact HB.out | apply below_alloc | apply pw_below_drewN | apply below_drew1) | exact HB.out)⟩⟩
        case rest =>
         clear HC47
         try clear c1
         try clear c2
         try clear p2
         try clear c3
         try clear c4
         try clear c5
         try clear c6
         try clear c17
         try clear c17b0
         try clear c17b1
         try clear c17b2
         try clear c19
         try clear c20
         try clear c20b0
         try clear c20b1
         try clear c20b2
         try clear c23
         try clear c23b0
         try clear c23b1
         try clear c23b2
         try clear c26
         try clear c33
         try clear c34
         try clear c35
         try clear c36
         try clear c37
         try clear c39
         try clear c39b0
         try clear c39b1
         try clear c39b2
         try clear c40
         try clear c41
         try clear c46
         try clear c48
         try clear c53
         try clear c54
         try clear c55
         try clear c57
         try clear c58
         try clear c59
         try clear c61
         try clear p2
         obtain ⟨kq, HA, HJ46, HB⟩ := hcut
         cases kq with
         | zero => exact absurd HA.out (by simp [laws_FnConfigurations.j2])
         | succ kj46 =>
          have H := HA.out
          clear HA
          simp only [laws_FnConfigurations.j2] at H
          replace H := Option.bind_eq_some_iff.mp H
          obtain ⟨⟨t860, t861⟩, A1190, H⟩ := H
          replace H : ((impl_FollowCircles.f kj46 t860 t861).bind fun bt866 => ((spec_FollowCircles.f kj46 t860 t861).bind fun bt870 => (if (bt866.2 != bt870.2) = true then (laws_FnConfigurations.j3 kj46 l1 t860 t861 bt866.1 bt866.2 true) else ((laws_dCircles.f kj46 bt866.1 bt870.1).bind fun t874 => (laws_FnConfigurations.j3 kj46 l1 t860 t861 bt866.1 bt866.2 (!t874)))))) = some r := H
          have A119 := Aside0.mk A1190
          clear A1190
          replace H := Option.bind_eq_some_iff.mp H
          obtain ⟨⟨t866, t867⟩, A1200, H⟩ := H
          replace H : ((spec_FollowCircles.f kj46 t860 t861).bind fun bt870 => (if (t867 != bt870.2) = true then (laws_FnConfigurations.j3 kj46 l1 t860 t861 t866 t867 true) else ((laws_dCircles.f kj46 t866 bt870.1).bind fun t874 => (laws_FnConfigurations.j3 kj46 l1 t860 t861 t866 t867 (!t874))))) = some r := H
          have A120 := Aside0.mk A1200
          clear A1200
          replace H := Option.bind_eq_some_iff.mp H
          obtain ⟨⟨t870, t871⟩, A1210, H⟩ := H
          replace H : (if (t867 != t871) = true then (laws_FnConfigurations.j3 kj46 l1 t860 t861 t866 t867 true) else ((laws_dCircles.f kj46 t866 t870).bind fun t874 => (laws_FnConfigurations.j3 kj46 l1 t860 t861 t866 t867 (!t874)))) = some r := H
          have A121 := Aside0.mk A1210
          clear A1210
          have HC122 := Aside0.mk H
          clear H
          go_upto_region 24 with (first | ((with_reducible refine gate_callee (f := 42) rfl ?_); refine goesL_ (some 182) rfl rfl Try.func42 (by kernel_rfl) rfl #[.slice A1 l1.length c1] rfl (by (try simp only [List.map_toArray, List.map_cons, List.map_nil]); first | done | rfl | (simp only [List.length_drop, List.length_take]; rfl)) ?_; (with_reducible refine (spec_DrawFollowCircles.calls kj46 _ _ l1 t860 t861 _ ?side1 ?side2 A119.out).mono ?_); (case side1 => repeat (first | exact (Kd.C_below HR1.out HB.out) | (with_reducible refine Kd.C_alloc ?_ _) | (with_reducible refine Kd.C_drewN ?_ _) | (with_reducible refine Kd.C_drew ?_))); (case side2 => exact HC1.out); rintro e w123 ⟨v862, v864, rfl, ho0, ho1, hb⟩; refine ⟨_, rfl, ?_⟩; have n0_ := Aside0.mk (Kd.R_lower ho0 (below_size (by repeat (first | (with_reducible first | exact HB.out | apply below_alloc | apply pw_below_drewN | apply below_drew1) | exact HB.out)))); have n1_ := Aside0.mk (Kd.R_lower ho1 (below_size (by repeat (first | (with_reducible first | exact HB.out | apply below_alloc | apply pw_below_drewN | apply below_drew1) | exact HB.out)))); have n2_ := Aside0.mk (below_step (by repeat (first | (with_reducible first | exact HB.out | apply below_alloc | apply pw_below_drewN | apply below_drew1) | exact HB.out)) hb); clear HB; have HO863 := n0_; have HO865 := n1_; have HB := n2_; clear n0_ n1_ n2_; (try clear hb); (try clear hb2); (try clear hk); (try clear hi); (try clear ho0); (try clear ho1); obtain ⟨Ao124, co124, eo124⟩ := Kd.R_slice HO863.out; subst eo124; obtain ⟨Ao125, co125, eo125⟩ := Kd.R_slice HO865.out; subst eo125) | ((with_reducible refine gate_callee (f := 43) rfl ?_); refine goesL_ (some 188) rfl rfl Try.func43 (by kernel_rfl) rfl #[.slice Ao124 t860.length co124, .slice Ao125 t861.length co125] rfl (by (try simp only [List.map_toArray, List.map_cons, List.map_nil]); first | done | rfl | (simp only [List.length_drop, List.length_take]; rfl)) ?_; (with_reducible refine (impl_FollowCircles.calls kj46 _ _ t860 _ _ t861 t866 t867 _ ?side1 ?side2 ?side3 ?side4 A120.out).mono ?_); (case side1 => repeat (first | exact (Kd.R_reads' HO863.out).2.2 | (with_reducible refine Kd.C_alloc ?_ _) | (with_reducible refine Kd.C_drewN ?_ _) | (with_reducible refine Kd.C_drew ?_))); (case side2 => exact (Kd.R_reads' HO863.out).2.1); (case side3 => repeat (first | exact (Kd.R_reads' HO865.out).2.2 | (with_reducible refine Kd.C_alloc ?_ _) | (with_reducible refine Kd.C_drewN ?_ _) | (with_reducible refine Kd.C_drew ?_))); (case side4 => exact (Kd.R_reads' HO865.out).2.1); rintro e w126 ⟨v868, rfl, ho0, hb⟩; refine ⟨_, rfl, ?_⟩; have n0_ := Aside0.mk (Kd.R_elder' (by (with_reducible repeat (first | apply Kd.R_alloc | apply Kd.R_drewN | apply Kd.R_drew)); exact HO863.out) (Kd.R_base ho0) hb); have n1_ := Aside0.mk (Kd.R_below (by (with_reducible repeat (first | apply Kd.R_alloc | apply Kd.R_drewN | apply Kd.R_drew)); exact HO865.out) hb); have n2_ := Aside0.mk (Kd.R_lower (Kd.R_new' ho0 (Kd.R_lt (by (with_reducible repeat (first | apply Kd.R_alloc | apply Kd.R_drewN | apply Kd.R_drew)); exact HO863.out))) (below_size (by repeat (first | (with_reducible first | exact HB.out | apply below_alloc | apply pw_below_drewN | apply below_drew1) | exact HB.out)))); have n3_ := Aside0.mk (below_step (by repeat (first | (with_reducible first | exact HB.out | apply below_alloc | apply pw_below_drewN | apply below_drew1) | exact HB.out)) hb); clear HO863; clear HO865; clear HB; have HO863 := n0_; have HO865 := n1_; have HO869 := n2_; have HB := n3_; clear n0_ n1_ n2_ n3_; (try clear hb); (try clear hb2); (try clear hk); (try clear hi); (try clear ho0)) | ((with_reducible refine gate_callee (f := 44) rfl ?_); refine goesL_ (some 194) rfl rfl Try.func44 (by kernel_rfl) rfl #[.slice Ao124 t860.length co124, .slice Ao125 t861.length co125] rfl (by (try simp only [List.map_toArray, List.map_cons, List.map_nil]); first | done | rfl | (simp only [List.length_drop, List.length_take]; rfl)) ?_; (with_reducible refine (spec_FollowCircles.calls kj46 _ _ t860 _ _ t861 t870 t871 _ ?side1 ?side2 ?side3 ?side4 A121.out).mono ?_); (case side1 => repeat (first | exact (Kd.R_reads' HO863.out).2.2 | (with_reducible refine Kd.C_alloc ?_ _) | (with_reducible refine Kd.C_drewN ?_ _) | (with_reducible refine Kd.C_drew ?_))); (case side2 => exact (Kd.R_reads' HO863.out).2.1); (case side3 => repeat (first | exact (Kd.R_reads' HO865.out).2.2 | (with_reducible refine Kd.C_alloc ?_ _) | (with_reducible refine Kd.C_drewN ?_ _) | (with_reducible refine Kd.C_drew ?_))); (case side4 => exact (Kd.R_reads' HO865.out).2.1); rintro e w127 ⟨v872, rfl, ho0, hb⟩; refine ⟨_, rfl, ?_⟩; have n0_ := Aside0.mk (Kd.R_elder' (by (with_reducible repeat (first | apply Kd.R_alloc | apply Kd.R_drewN | apply Kd.R_drew)); exact HO863.out) (Kd.R_base ho0) hb); have n1_ := Aside0.mk (Kd.R_below (by (with_reducible repeat (first | apply Kd.R_alloc | apply Kd.R_drewN | apply Kd.R_drew)); exact HO865.out) hb); have n2_ := Aside0.mk (Kd.R_elder' (by (with_reducible repeat (first | apply Kd.R_alloc | apply Kd.R_drewN | apply Kd.R_drew)); exact HO869.out) (Kd.R_base ho0) hb); have n3_ := Aside0.mk (Kd.R_lower (Kd.R_new' (Kd.R_new' ho0 (Kd.R_lt (by (with_reducible repeat (first | apply Kd.R_alloc | apply Kd.R_drewN | apply Kd.R_drew)); exact HO863.out))) (Kd.R_lt (by (with_reducible repeat (first | apply Kd.R_alloc | apply Kd.R_drewN | apply Kd.R_drew)); exact HO869.out))) (below_size (by repeat (first | (with_reducible first | exact HB.out | apply below_alloc | apply pw_below_drewN | apply below_drew1) | exact HB.out)))); have n4_ := Aside0.mk (below_step (by repeat (first | (with_reducible first | exact HB.out | apply below_alloc | apply pw_below_drewN | apply below_drew1) | exact HB.out)) hb); clear HO863; clear HO865; clear HO869; clear HB; have HO863 := n0_; have HO865 := n1_; have HO869 := n2_; have HO873 := n3_; have HB := n4_; clear n0_ n1_ n2_ n3_ n4_; (try clear hb); (try clear hb2); (try clear hk); (try clear hi); (try clear ho0)))
          (try simp only [Act.put, List.setIfInBounds_toArray, List.set_cons_zero, List.set_cons_succ])
          go_cut [205] (fun v205 wc => ∃ (kq : Nat) (x205_121 : Bool), v205 = .bool x205_121 ∧ Aside0 (laws_FnConfigurations.j3 kq l1 t860 t861 t866 t867 x205_121 = some r) ∧ Aside0 (kq ≤ kj46) ∧ Aside0 (Kd.R k38 38 wc w.heap.size (fun k_ => some k_ ≠ (v868 : Value).ownBlock) (.slice Ao124 t860.length co124) t860) ∧ Aside0 (Kd.R (Kd.int .i64) 3 wc w.heap.size (fun _ => True) (.slice Ao125 t861.length co125) t861) ∧ Aside0 (Kd.R k38 38 wc w.heap.size (fun k_ => some k_ ≠ ((.slice Ao124 t860.length co124) : Value).ownBlock) v868 t866) ∧ Aside0 (Below w.heap.size w wc))
          case first => as_aux_lemma =>
           have H := HC122.out
           clear HC122
           by_cases c128 : (t867 != t871) = true
           ·
            rw [if_pos c128] at H
            have c128b0 : (t867 != t871) = true := c128
            (try (have c128b1 : decide (t867 = t871) = false := by simpa using c128))
            (try (have c128b2 : (t867 == t871) = false := by simpa using c128))
            (try (have c128b3 : ¬ (t867 = t871) := by simpa using c128))
            clear c128
            (first | rw [c128b0] | (simp only [i64_w, i32_w]; rw [c128b0]) | rw [c128b1] | skip)
            have H' := Aside0.mk H
            clear H
            go_wp2
            go_meet
            case rel => exact ⟨_, (true), (by first | rfl | (simp; done) | (simp [*]; done)), H', ⟨by have := HJ9.out; have := HJ35.out; have := HJ46.out; first | omega | exact Nat.le_refl _⟩, ⟨by (with_reducible repeat (first | apply Kd.R_alloc | apply Kd.R_drewN | apply Kd.R_drew)); exact Kd.R_mono HO863.out (fun _ hk => hk.1.2)⟩, ⟨by (with_reducible repeat (first | apply Kd.R_alloc | apply Kd.R_drewN | apply Kd.R_drew)); exact HO865.out⟩, ⟨by (with_reducible repeat (first | apply Kd.R_alloc | apply Kd.R_drewN | apply Kd.R_drew)); exact Kd.R_mono HO869.out (fun _ hk => hk.1.2)⟩, ⟨by repeat (first | (with_reducible first | exact HB.out | apply below_alloc | apply pw_below_drewN | apply below_drew1) | exact HB.out)⟩⟩
           ·
            rw [if_neg c128] at H
            have c128b0 : (t867 != t871) = false := by simpa using c128
            (try (have c128b1 : decide (t867 = t871) = true := by simpa using c128))
            (try (have c128b2 : (t867 == t871) = true := by simpa using c128))
            clear c128
            (first | rw [c128b0] | (simp only [i64_w, i32_w]; rw [c128b0]) | rw [c128b1] | skip)
            replace H := Option.bind_eq_some_iff.mp H
            obtain ⟨t874, A1290, H⟩ := H
            replace H : (laws_FnConfigurations.j3 kj46 l1 t860 t861 t866 t867 (!t874)) = some r := H
            have A129 := Aside0.mk A1290
            clear A1290
            have H' := Aside0.mk H
            clear H
            obtain ⟨Ao130, co130, eo130⟩ := Kd.R_slice HO869.out
            subst eo130
            obtain ⟨Ao131, co131, eo131⟩ := Kd.R_slice HO873.out
            subst eo131
            go_wp2_with (first | (go_at_call 38; (with_reducible refine (laws_dCircles.calls kj46 _ _ t866 _ _ t870 t874 _ ?side1 ?side2 ?side3 ?side4 A129.out).mono ?_); (case side1 => repeat (first | exact (Kd.R_reads' HO869.out).2.2 | (with_reducible refine Kd.C_alloc ?_ _) | (with_reducible refine Kd.C_drewN ?_ _) | (with_reducible refine Kd.C_drew ?_))); (case side2 => exact (Kd.R_reads' HO869.out).2.1); (case side3 => repeat (first | exact (Kd.R_reads' HO873.out).2.2 | (with_reducible refine Kd.C_alloc ?_ _) | (with_reducible refine Kd.C_drewN ?_ _) | (with_reducible refine Kd.C_drew ?_))); (case side4 => exact (Kd.R_reads' HO873.out).2.1); rintro e w' ⟨rfl, ⟨nd, rfl⟩⟩))
            go_meet
            case rel => exact ⟨_, (!t874), (by first | rfl | (simp; done) | (simp [*]; done)), H', ⟨by have := HJ9.out; have := HJ35.out; have := HJ46.out; first | omega | exact Nat.le_refl _⟩, ⟨by (with_reducible repeat (first | apply Kd.R_alloc | apply Kd.R_drewN | apply Kd.R_drew)); exact Kd.R_mono HO863.out (fun _ hk => hk.1.2)⟩, ⟨by (with_reducible repeat (first | apply Kd.R_alloc | apply Kd.R_drewN | apply Kd.R_drew)); exact HO865.out⟩, ⟨by (with_reducible repeat (first | apply Kd.R_alloc | apply Kd.R_drewN | apply Kd.R_drew)); exact Kd.R_mono HO869.out (fun _ hk => hk.1.2)⟩, ⟨by repeat (first | (with_reducible first | exact HB.out | apply below_alloc | apply pw_below_drewN | apply below_drew1) | exact HB.out)⟩⟩
          case rest =>
           clear HC122
           try clear c1
           try clear c2
           try clear p2
           try clear c3
           try clear c4
           try clear c5
           try clear c6
           try clear c12
           try clear c17
           try clear c17b0
           try clear c17b1
           try clear c17b2
           try clear c19
           try clear c20
           try clear c20b0
           try clear c20b1
           try clear c20b2
           try clear c23
           try clear c23b0
           try clear c23b1
           try clear c23b2
           try clear c26
           try clear c33
           try clear c34
           try clear c35
           try clear c36
           try clear c37
           try clear c39
           try clear c39b0
           try clear c39b1
           try clear c39b2
           try clear c40
           try clear c41
           try clear c42
           try clear c43
           try clear c44
           try clear c46
           try clear c48
           try clear c53
           try clear c54
           try clear c55
           try clear c57
           try clear c58
           try clear c59
           try clear c61
           try clear c128
           try clear c128b0
           try clear c128b1
           try clear c128b2
           try clear p2
           obtain ⟨kq, x205_121, rfl, HA, HJ121, HO_27, HO_28, HO_29, HB⟩ := hcut
           cases kq with
           | zero => exact absurd HA.out (by simp [laws_FnConfigurations.j3])
           | succ kj121 =>
            have H := HA.out
            clear HA
            simp only [laws_FnConfigurations.j3] at H
            by_cases c132 : x205_121 = true
            ·
             subst c132
             have H1 : (some false) = some r := by rw [if_pos rfl] at H; exact H
             clear H
             have H := H1
             clear H1
             obtain rfl := Option.some.inj H
             go_wp2
             go_ret
             exact ⟨by first | rfl | (simp [errW_none, errW_some] <;> rfl) | (simp [*, errW_none, errW_some] <;> rfl), by repeat (first | (with_reducible first | exact HB.out | apply below_alloc | apply pw_below_drewN | apply below_drew1) | exact HB.out)⟩
            ·
             replace c132 := Bool.eq_false_iff.mpr c132
             subst c132
             have H1 : (if t867 = true then ((impl_IsConfig.f kj121 t866).bind fun bt875 => (if bt875.2 = true then (laws_FnConfigurations.j4 kj121 l1 t860 t861 t866 (!bt875.1)) else (laws_FnConfigurations.j4 kj121 l1 t860 t861 t866 true))) else (laws_FnConfigurations.j5 kj121 l1)) = some r := by rw [if_neg (show ¬ (false = true) by decide)] at H; exact H
             clear H
             have H := H1
             clear H1
             have HC133 := Aside0.mk H
             clear H
             go_upto_if 206 with (fail)
             go_cut [] (fun wc => ∃ (kq : Nat), Aside0 (laws_FnConfigurations.j5 kq l1 = some r) ∧ Aside0 (kq ≤ kj121) ∧ Aside0 (Below w.heap.size w wc))
             case first => as_aux_lemma =>
              have H := HC133.out
              clear HC133
              by_cases c134 : t867 = true
              ·
               subst c134
               have H1 : ((impl_IsConfig.f kj121 t866).bind fun bt875 => (if bt875.2 = true then (laws_FnConfigurations.j4 kj121 l1 t860 t861 t866 (!bt875.1)) else (laws_FnConfigurations.j4 kj121 l1 t860 t861 t866 true))) = some r := by rw [if_pos rfl] at H; exact H
               clear H
               have H := H1
               clear H1
               replace H := Option.bind_eq_some_iff.mp H
               obtain ⟨⟨t875, t876⟩, A1350, H⟩ := H
               replace H : (if t876 = true then (laws_FnConfigurations.j4 kj121 l1 t860 t861 t866 (!t875)) else (laws_FnConfigurations.j4 kj121 l1 t860 t861 t866 true)) = some r := H
               have A135 := Aside0.mk A1350
               clear A1350
               have HC136 := Aside0.mk H
               clear H
               obtain ⟨Ao137, co137, eo137⟩ := Kd.R_slice HO_29.out
               subst eo137
               go_upto_region 28 with (first | ((with_reducible refine gate_callee (f := 36) rfl ?_); refine goesL_ (some 209) rfl rfl Try.func36 (by kernel_rfl) rfl #[.slice Ao137 t866.length co137] rfl (by (try simp only [List.map_toArray, List.map_cons, List.map_nil]); first | done | rfl | (simp only [List.length_drop, List.length_take]; rfl)) ?_; (with_reducible refine (impl_IsConfig.calls kj121 _ _ t866 t875 t876 _ ?side1 ?side2 A135.out).mono ?_); (case side1 => repeat (first | exact (Kd.R_reads' HO_29.out).2.2 | (with_reducible refine Kd.C_alloc ?_ _) | (with_reducible refine Kd.C_drewN ?_ _) | (with_reducible refine Kd.C_drew ?_))); (case side2 => exact (Kd.R_reads' HO_29.out).2.1); rintro e w138 ⟨rfl, hb⟩; refine ⟨_, rfl, ?_⟩; have n0_ := Aside0.mk (Kd.R_below (by (with_reducible repeat (first | apply Kd.R_alloc | apply Kd.R_drewN | apply Kd.R_drew)); exact HO_27.out) hb); have n1_ := Aside0.mk (Kd.R_below (by (with_reducible repeat (first | apply Kd.R_alloc | apply Kd.R_drewN | apply Kd.R_drew)); exact HO_28.out) hb); have n2_ := Aside0.mk (Kd.R_below (by (with_reducible repeat (first | apply Kd.R_alloc | apply Kd.R_drewN | apply Kd.R_drew)); exact HO_29.out) hb); have n3_ := Aside0.mk (below_step (by repeat (first | (with_reducible first | exact HB.out | apply below_alloc | apply pw_below_drewN | apply below_drew1) | exact HB.out)) hb); clear HO_27; clear HO_28; clear HO_29; clear HB; have HO_27 := n0_; have HO_28 := n1_; have HO_29 := n2_; have HB := n3_; clear n0_ n1_ n2_ n3_; (try clear hb); (try clear hb2); (try clear hk); (try clear hi)))
               (try simp only [Act.put, List.setIfInBounds_toArray, List.set_cons_zero, List.set_cons_succ])
               go_cut [217] (fun v217 wc => ∃ (kq : Nat) (x217_135 : Bool), v217 = .bool x217_135 ∧ Aside0 (laws_FnConfigurations.j4 kq l1 t860 t861 t866 x217_135 = some r) ∧ Aside0 (kq ≤ kj121) ∧ Aside0 (Kd.R k38 38 wc w.heap.size (fun k_ => some k_ ≠ ((.slice Ao137 t866.length co137) : Value).ownBlock) (.slice Ao124 t860.length co124) t860) ∧ Aside0 (Kd.R (Kd.int .i64) 3 wc w.heap.size (fun _ => True) (.slice Ao125 t861.length co125) t861) ∧ Aside0 (Kd.R k38 38 wc w.heap.size (fun k_ => some k_ ≠ ((.slice Ao124 t860.length co124) : Value).ownBlock) (.slice Ao137 t866.length co137) t866) ∧ Aside0 (Below w.heap.size w wc))
               case first => as_aux_lemma =>
                have H := HC136.out
                clear HC136
                by_cases c139 : t876 = true
                ·
                 subst c139
                 have H1 : (laws_FnConfigurations.j4 kj121 l1 t860 t861 t866 (!t875)) = some r := by rw [if_pos rfl] at H; exact H
                 clear H
                 have H := H1
                 clear H1
                 have H' := Aside0.mk H
                 clear H
                 go_wp2
                 go_meet
                 case rel => exact ⟨_, (!t875), (by first | rfl | (simp; done) | (simp [*]; done)), H', ⟨by have := HJ9.out; have := HJ35.out; have := HJ46.out; have := HJ121.out; first | omega | exact Nat.le_refl _⟩, ⟨by (with_reducible repeat (first | apply Kd.R_alloc | apply Kd.R_drewN | apply Kd.R_drew)); exact HO_27.out⟩, ⟨by (with_reducible repeat (first | apply Kd.R_alloc | apply Kd.R_drewN | apply Kd.R_drew)); exact HO_28.out⟩, ⟨by (with_reducible repeat (first | apply Kd.R_alloc | apply Kd.R_drewN | apply Kd.R_drew)); exact HO_29.out⟩, ⟨by repeat (first | (with_reducible first | exact HB.out | apply below_alloc | apply pw_below_drewN | apply below_drew1) | exact HB.out)⟩⟩
                ·
                 replace c139 := Bool.eq_false_iff.mpr c139
                 subst c139
                 have H1 : (laws_FnConfigurations.j4 kj121 l1 t860 t861 t866 true) = some r := by rw [if_neg (show ¬ (false = true) by decide)] at H; exact H
                 clear H
                 have H := H1
                 clear H1
                 have H' := Aside0.mk H
                 clear H
                 go_wp2
                 go_meet
                 case rel => exact ⟨_, (true), (by first | rfl | (simp; done) | (simp [*]; done)), H', ⟨by have := HJ9.out; have := HJ35.out; have := HJ46.out; have := HJ121.out; first | omega | exact Nat.le_refl _⟩, ⟨by (with_reducible repeat (first | apply Kd.R_alloc | apply Kd.R_drewN | apply Kd.R_drew)); exact HO_27.out⟩, ⟨by (with_reducible repeat (first | apply Kd.R_alloc | apply Kd.R_drewN | apply Kd.R_drew)); exact HO_28.out⟩, ⟨by (with_reducible repeat (first | apply Kd.R_alloc | apply Kd.R_drewN | apply Kd.R_drew)); exact HO_29.out⟩, ⟨by repeat (first | (with_reducible first | exact HB.out | apply below_alloc | apply pw_below_drewN | apply below_drew1) | exact HB.out)⟩⟩
               case rest =>
                clear HC136
                try clear c1
                try clear c2
                try clear p2
                try clear c3
                try clear c4
                try clear c5
                try clear c6
                try clear c12
                try clear c13
                try clear c17
                try clear c17b0
                try clear c17b1
                try clear c17b2
                try clear c19
                try clear c20
                try clear c20b0
                try clear c20b1
                try clear c20b2
                try clear c23
                try clear c23b0
                try clear c23b1
                try clear c23b2
                try clear c26
                try clear c33
                try clear c34
                try clear c35
                try clear c36
                try clear c37
                try clear c39
                try clear c39b0
                try clear c39b1
                try clear c39b2
                try clear c40
                try clear c41
                try clear c42
                try clear c43
                try clear c44
                try clear c46
                try clear c48
                try clear c53
                try clear c54
                try clear c55
                try clear c57
                try clear c58
                try clear c59
                try clear c61
                try clear c128
                try clear c128b0
                try clear c128b1
                try clear c128b2
                try clear c132
                try clear c134
                try clear c139
                try clear p2
                obtain ⟨kq, x217_135, rfl, HA, HJ135, HO_27, HO_28, HO_29, HB⟩ := hcut
                cases kq with
                | zero => exact absurd HA.out (by simp [laws_FnConfigurations.j4])
                | succ kj135 =>
                 have H := HA.out
                 clear HA
                 simp only [laws_FnConfigurations.j4] at H
                 by_cases c140 : x217_135 = true
                 ·
                  subst c140
                  have H1 : (some false) = some r := by rw [if_pos rfl] at H; exact H
                  clear H
                  have H := H1
                  clear H1
                  obtain rfl := Option.some.inj H
                  go_wp2
                  go_ret
                  exact ⟨by first | rfl | (simp [errW_none, errW_some] <;> rfl) | (simp [*, errW_none, errW_some] <;> rfl), by repeat (first | (with_reducible first | exact HB.out | apply below_alloc | apply pw_below_drewN | apply below_drew1) | exact HB.out)⟩
                 ·
                  replace c140 := Bool.eq_false_iff.mpr c140
                  subst c140
                  have H1 : ((impl_CurvaturesOf.f kj135 t860).bind fun bt877 => ((impl_CurvaturesOf.f kj135 t866).bind fun bt881 => ((impl_FollowSwaps.f kj135 bt877.1 t861).bind fun bt885 => (if bt877.2 = true then (if bt881.2 = true then (if bt885.2 = true then ((laws_dSame.f kj135 bt885.1 bt881.1).bind fun t889 => (if t889 = true then (laws_FnConfigurations.j5 kj135 l1) else (some false))) else (laws_FnConfigurations.j5 kj135 l1)) else (some false)) else (some false))))) = some r := by rw [if_neg (show ¬ (false = true) by decide)] at H; exact H
                  clear H
                  have H := H1
                  clear H1
                  replace H := Option.bind_eq_some_iff.mp H
                  obtain ⟨⟨t877, t878⟩, A1410, H⟩ := H
                  replace H : ((impl_CurvaturesOf.f kj135 t866).bind fun bt881 => ((impl_FollowSwaps.f kj135 t877 t861).bind fun bt885 => (if t878 = true then (if bt881.2 = true then (if bt885.2 = true then ((laws_dSame.f kj135 bt885.1 bt881.1).bind fun t889 => (if t889 = true then (laws_FnConfigurations.j5 kj135 l1) else (some false))) else (laws_FnConfigurations.j5 kj135 l1)) else (some false)) else (some false)))) = some r := H
                  have A141 := Aside0.mk A1410
                  clear A1410
                  replace H := Option.bind_eq_some_iff.mp H
                  obtain ⟨⟨t881, t882⟩, A1420, H⟩ := H
                  replace H : ((impl_FollowSwaps.f kj135 t877 t861).bind fun bt885 => (if t878 = true then (if t882 = true then (if bt885.2 = true then ((laws_dSame.f kj135 bt885.1 t881).bind fun t889 => (if t889 = true then (laws_FnConfigurations.j5 kj135 l1) else (some false))) else (laws_FnConfigurations.j5 kj135 l1)) else (some false)) else (some false))) = some r := H
                  have A142 := Aside0.mk A1420
                  clear A1420
                  replace H := Option.bind_eq_some_iff.mp H
                  obtain ⟨⟨t885, t886⟩, A1430, H⟩ := H
                  replace H : (if t878 = true then (if t882 = true then (if t886 = true then ((laws_dSame.f kj135 t885 t881).bind fun t889 => (if t889 = true then (laws_FnConfigurations.j5 kj135 l1) else (some false))) else (laws_FnConfigurations.j5 kj135 l1)) else (some false)) else (some false)) = some r := H
                  have A143 := Aside0.mk A1430
                  clear A1430
                  by_cases c144 : t878 = true
                  ·
                   subst c144
                   have H1 : (if t882 = true then (if t886 = true then ((laws_dSame.f kj135 t885 t881).bind fun t889 => (if t889 = true then (laws_FnConfigurations.j5 kj135 l1) else (some false))) else (laws_FnConfigurations.j5 kj135 l1)) else (some false)) = some r := by rw [if_pos rfl] at H; exact H
                   clear H
                   have H := H1
                   clear H1
                   by_cases c145 : t882 = true
                   ·
                    subst c145
                    have H1 : (if t886 = true then ((laws_dSame.f kj135 t885 t881).bind fun t889 => (if t889 = true then (laws_FnConfigurations.j5 kj135 l1) else (some false))) else (laws_FnConfigurations.j5 kj135 l1)) = some r := by rw [if_pos rfl] at H; exact H
                    clear H
                    have H := H1
                    clear H1
                    by_cases c146 : t886 = true
                    ·
                     subst c146
                     have H1 : ((laws_dSame.f kj135 t885 t881).bind fun t889 => (if t889 = true then (laws_FnConfigurations.j5 kj135 l1) else (some false))) = some r := by rw [if_pos rfl] at H; exact H
                     clear H
                     have H := H1
                     clear H1
                     replace H := Option.bind_eq_some_iff.mp H
                     obtain ⟨t889, A1470, H⟩ := H
                     replace H : (if t889 = true then (laws_FnConfigurations.j5 kj135 l1) else (some false)) = some r := H
                     have A147 := Aside0.mk A1470
                     clear A1470
                     by_cases c148 : t889 = true
                     ·
                      subst c148
                      have H1 : (laws_FnConfigurations.j5 kj135 l1) = some r := by rw [if_pos rfl] at H; exact H
                      clear H
                      have H := H1
                      clear H1
                      have H' := Aside0.mk H
                      clear H
                      go_wp2_with (first | ((with_reducible refine gate_callee (f := 39) rfl ?_); refine goesL_ (some 220) rfl rfl Try.func39 (by kernel_rfl) rfl #[.slice Ao124 t860.length co124] rfl (by (try simp only [List.map_toArray, List.map_cons, List.map_nil]); first | done | rfl | (simp only [List.length_drop, List.length_take]; rfl)) ?_; (with_reducible refine (impl_CurvaturesOf.calls kj135 _ _ t860 t877 true _ ?side1 ?side2 A141.out).mono ?_); (case side1 => repeat (first | exact (Kd.R_reads' HO_27.out).2.2 | (with_reducible refine Kd.C_alloc ?_ _) | (with_reducible refine Kd.C_drewN ?_ _) | (with_reducible refine Kd.C_drew ?_))); (case side2 => exact (Kd.R_reads' HO_27.out).2.1); rintro e w149 ⟨v879, rfl, ho0, hb⟩; refine ⟨_, rfl, ?_⟩; have n0_ := Aside0.mk (Kd.R_below (by (with_reducible repeat (first | apply Kd.R_alloc | apply Kd.R_drewN | apply Kd.R_drew)); exact HO_27.out) hb); have n1_ := Aside0.mk (Kd.R_elder' (by (with_reducible repeat (first | apply Kd.R_alloc | apply Kd.R_drewN | apply Kd.R_drew)); exact HO_28.out) (Kd.R_base ho0) hb); have n2_ := Aside0.mk (Kd.R_below (by (with_reducible repeat (first | apply Kd.R_alloc | apply Kd.R_drewN | apply Kd.R_drew)); exact HO_29.out) hb); have n3_ := Aside0.mk (Kd.R_lower (Kd.R_new' ho0 (Kd.R_lt (by (with_reducible repeat (first | apply Kd.R_alloc | apply Kd.R_drewN | apply Kd.R_drew)); exact HO_28.out))) (below_size (by repeat (first | (with_reducible first | exact HB.out | apply below_alloc | apply pw_below_drewN | apply below_drew1) | exact HB.out)))); have n4_ := Aside0.mk (below_step (by repeat (first | (with_reducible first | exact HB.out | apply below_alloc | apply pw_below_drewN | apply below_drew1) | exact HB.out)) hb); clear HO_27; clear HO_28; clear HO_29; clear HB; have HO_27 := n0_; have HO_28 := n1_; have HO_29 := n2_; have HO880 := n3_; have HB := n4_; clear n0_ n1_ n2_ n3_ n4_; (try clear hb); (try clear hb2); (try clear hk); (try clear hi); (try clear ho0)) | ((with_reducible refine gate_callee (f := 39) rfl ?_); refine goesL_ (some 225) rfl rfl Try.func39 (by kernel_rfl) rfl #[.slice Ao137 t866.length co137] rfl (by (try simp only [List.map_toArray, List.map_cons, List.map_nil]); first | done | rfl | (simp only [List.length_drop, List.length_take]; rfl)) ?_; (with_reducible refine (impl_CurvaturesOf.calls kj135 _ _ t866 t881 true _ ?side1 ?side2 A142.out).mono ?_); (case side1 => repeat (first | exact (Kd.R_reads' HO_29.out).2.2 | (with_reducible refine Kd.C_alloc ?_ _) | (with_reducible refine Kd.C_drewN ?_ _) | (with_reducible refine Kd.C_drew ?_))); (case side2 => exact (Kd.R_reads' HO_29.out).2.1); rintro e w150 ⟨v883, rfl, ho0, hb⟩; refine ⟨_, rfl, ?_⟩; have n0_ := Aside0.mk (Kd.R_below (by (with_reducible repeat (first | apply Kd.R_alloc | apply Kd.R_drewN | apply Kd.R_drew)); exact HO_27.out) hb); have n1_ := Aside0.mk (Kd.R_elder' (by (with_reducible repeat (first | apply Kd.R_alloc | apply Kd.R_drewN | apply Kd.R_drew)); exact HO_28.out) (Kd.R_base ho0) hb); have n2_ := Aside0.mk (Kd.R_below (by (with_reducible repeat (first | apply Kd.R_alloc | apply Kd.R_drewN | apply Kd.R_drew)); exact HO_29.out) hb); have n3_ := Aside0.mk (Kd.R_elder' (by (with_reducible repeat (first | apply Kd.R_alloc | apply Kd.R_drewN | apply Kd.R_drew)); exact HO880.out) (Kd.R_base ho0) hb); have n4_ := Aside0.mk (Kd.R_lower (Kd.R_new' (Kd.R_new' ho0 (Kd.R_lt (by (with_reducible repeat (first | apply Kd.R_alloc | apply Kd.R_drewN | apply Kd.R_drew)); exact HO_28.out))) (Kd.R_lt (by (with_reducible repeat (first | apply Kd.R_alloc | apply Kd.R_drewN | apply Kd.R_drew)); exact HO880.out))) (below_size (by repeat (first | (with_reducible first | exact HB.out | apply below_alloc | apply pw_below_drewN | apply below_drew1) | exact HB.out)))); have n5_ := Aside0.mk (below_step (by repeat (first | (with_reducible first | exact HB.out | apply below_alloc | apply pw_below_drewN | apply below_drew1) | exact HB.out)) hb); clear HO_27; clear HO_28; clear HO_29; clear HO880; clear HB; have HO_27 := n0_; have HO_28 := n1_; have HO_29 := n2_; have HO880 := n3_; have HO884 := n4_; have HB := n5_; clear n0_ n1_ n2_ n3_ n4_ n5_; (try clear hb); (try clear hb2); (try clear hk); (try clear hi); (try clear ho0); obtain ⟨Ao151, co151, eo151⟩ := Kd.R_slice HO880.out; subst eo151) | ((with_reducible refine gate_callee (f := 45) rfl ?_); refine goesL_ (some 231) rfl rfl Try.func45 (by kernel_rfl) rfl #[.slice Ao151 t877.length co151, .slice Ao125 t861.length co125] rfl (by (try simp only [List.map_toArray, List.map_cons, List.map_nil]); first | done | rfl | (simp only [List.length_drop, List.length_take]; rfl)) ?_; (with_reducible refine (impl_FollowSwaps.calls kj135 _ _ t877 _ _ t861 t885 true _ ?side1 ?side2 ?side3 ?side4 A143.out).mono ?_); (case side1 => repeat (first | exact (Kd.R_reads' HO880.out).2.2 | (with_reducible refine Kd.C_alloc ?_ _) | (with_reducible refine Kd.C_drewN ?_ _) | (with_reducible refine Kd.C_drew ?_))); (case side2 => exact (Kd.R_reads' HO880.out).2.1); (case side3 => repeat (first | exact (Kd.R_reads' HO_28.out).2.2 | (with_reducible refine Kd.C_alloc ?_ _) | (with_reducible refine Kd.C_drewN ?_ _) | (with_reducible refine Kd.C_drew ?_))); (case side4 => exact (Kd.R_reads' HO_28.out).2.1); rintro e w152 ⟨v887, rfl, ho0, hb⟩; refine ⟨_, rfl, ?_⟩; have n0_ := Aside0.mk (Kd.R_below (by (with_reducible repeat (first | apply Kd.R_alloc | apply Kd.R_drewN | apply Kd.R_drew)); exact HO_27.out) hb); have n1_ := Aside0.mk (Kd.R_elder' (by (with_reducible repeat (first | apply Kd.R_alloc | apply Kd.R_drewN | apply Kd.R_drew)); exact HO_28.out) (Kd.R_base ho0) hb); have n2_ := Aside0.mk (Kd.R_below (by (with_reducible repeat (first | apply Kd.R_alloc | apply Kd.R_drewN | apply Kd.R_drew)); exact HO_29.out) hb); have n3_ := Aside0.mk (Kd.R_elder' (by (with_reducible repeat (first | apply Kd.R_alloc | apply Kd.R_drewN | apply Kd.R_drew)); exact HO880.out) (Kd.R_base ho0) hb); have n4_ := Aside0.mk (Kd.R_elder' (by (with_reducible repeat (first | apply Kd.R_alloc | apply Kd.R_drewN | apply Kd.R_drew)); exact HO884.out) (Kd.R_base ho0) hb); have n5_ := Aside0.mk (Kd.R_lower (Kd.R_new' (Kd.R_new' (Kd.R_new' ho0 (Kd.R_lt (by (with_reducible repeat (first | apply Kd.R_alloc | apply Kd.R_drewN | apply Kd.R_drew)); exact HO_28.out))) (Kd.R_lt (by (with_reducible repeat (first | apply Kd.R_alloc | apply Kd.R_drewN | apply Kd.R_drew)); exact HO880.out))) (Kd.R_lt (by (with_reducible repeat (first | apply Kd.R_alloc | apply Kd.R_drewN | apply Kd.R_drew)); exact HO884.out))) (below_size (by repeat (first | (with_reducible first | exact HB.out | apply below_alloc | apply pw_below_drewN | apply below_drew1) | exact HB.out)))); have n6_ := Aside0.mk (below_step (by repeat (first | (with_reducible first | exact HB.out | apply below_alloc | apply pw_below_drewN | apply below_drew1) | exact HB.out)) hb); clear HO_27; clear HO_28; clear HO_29; clear HO880; clear HO884; clear HB; have HO_27 := n0_; have HO_28 := n1_; have HO_29 := n2_; have HO880 := n3_; have HO884 := n4_; have HO888 := n5_; have HB := n6_; clear n0_ n1_ n2_ n3_ n4_ n5_ n6_; (try clear hb); (try clear hb2); (try clear hk); (try clear hi); (try clear ho0); obtain ⟨Ao153, co153, eo153⟩ := Kd.R_slice HO888.out; subst eo153; obtain ⟨Ao154, co154, eo154⟩ := Kd.R_slice HO884.out; subst eo154) | (go_at_call 14; (with_reducible refine (laws_dSame.calls kj135 _ _ t885 _ _ t881 true _ ?side1 ?side2 ?side3 ?side4 A147.out).mono ?_); (case side1 => repeat (first | exact (Kd.R_reads' HO888.out).2.2 | (with_reducible refine Kd.C_alloc ?_ _) | (with_reducible refine Kd.C_drewN ?_ _) | (with_reducible refine Kd.C_drew ?_))); (case side2 => exact (Kd.R_reads' HO888.out).2.1); (case side3 => repeat (first | exact (Kd.R_reads' HO884.out).2.2 | (with_reducible refine Kd.C_alloc ?_ _) | (with_reducible refine Kd.C_drewN ?_ _) | (with_reducible refine Kd.C_drew ?_))); (case side4 => exact (Kd.R_reads' HO884.out).2.1); rintro e w' ⟨rfl, ⟨nd, rfl⟩⟩))
                      go_meet
                      case rel => exact ⟨_, H', ⟨by have := HJ9.out; have := HJ35.out; have := HJ46.out; have := HJ121.out; have := HJ135.out; first | omega | exact Nat.le_refl _⟩, ⟨by repeat (first | (with_reducible first | exact HB.out | apply below_alloc | apply pw_below_drewN | apply below_drew1) | exact HB.out)⟩⟩
                     ·
                      replace c148 := Bool.eq_false_iff.mpr c148
                      subst c148
                      have H1 : (some false) = some r := by rw [if_neg (show ¬ (false = true) by decide)] at H; exact H
                      clear H
                      have H := H1
                      clear H1
                      obtain rfl := Option.some.inj H
                      go_wp2_with (first | ((with_reducible refine gate_callee (f := 39) rfl ?_); refine goesL_ (some 220) rfl rfl Try.func39 (by kernel_rfl) rfl #[.slice Ao124 t860.length co124] rfl (by (try simp only [List.map_toArray, List.map_cons, List.map_nil]); first | done | rfl | (simp only [List.length_drop, List.length_take]; rfl)) ?_; (with_reducible refine (impl_CurvaturesOf.calls kj135 _ _ t860 t877 true _ ?side1 ?side2 A141.out).mono ?_); (case side1 => repeat (first | exact (Kd.R_reads' HO_27.out).2.2 | (with_reducible refine Kd.C_alloc ?_ _) | (with_reducible refine Kd.C_drewN ?_ _) | (with_reducible refine Kd.C_drew ?_))); (case side2 => exact (Kd.R_reads' HO_27.out).2.1); rintro e w155 ⟨v879, rfl, ho0, hb⟩; refine ⟨_, rfl, ?_⟩; have n0_ := Aside0.mk (Kd.R_below (by (with_reducible repeat (first | apply Kd.R_alloc | apply Kd.R_drewN | apply Kd.R_drew)); exact HO_27.out) hb); have n1_ := Aside0.mk (Kd.R_elder' (by (with_reducible repeat (first | apply Kd.R_alloc | apply Kd.R_drewN | apply Kd.R_drew)); exact HO_28.out) (Kd.R_base ho0) hb); have n2_ := Aside0.mk (Kd.R_below (by (with_reducible repeat (first | apply Kd.R_alloc | apply Kd.R_drewN | apply Kd.R_drew)); exact HO_29.out) hb); have n3_ := Aside0.mk (Kd.R_lower (Kd.R_new' ho0 (Kd.R_lt (by (with_reducible repeat (first | apply Kd.R_alloc | apply Kd.R_drewN | apply Kd.R_drew)); exact HO_28.out))) (below_size (by repeat (first | (with_reducible first | exact HB.out | apply below_alloc | apply pw_below_drewN | apply below_drew1) | exact HB.out)))); have n4_ := Aside0.mk (below_step (by repeat (first | (with_reducible first | exact HB.out | apply below_alloc | apply pw_below_drewN | apply below_drew1) | exact HB.out)) hb); clear HO_27; clear HO_28; clear HO_29; clear HB; have HO_27 := n0_; have HO_28 := n1_; have HO_29 := n2_; have HO880 := n3_; have HB := n4_; clear n0_ n1_ n2_ n3_ n4_; (try clear hb); (try clear hb2); (try clear hk); (try clear hi); (try clear ho0)) | ((with_reducible refine gate_callee (f := 39) rfl ?_); refine goesL_ (some 225) rfl rfl Try.func39 (by kernel_rfl) rfl #[.slice Ao137 t866.length co137] rfl (by (try simp only [List.map_toArray, List.map_cons, List.map_nil]); first | done | rfl | (simp only [List.length_drop, List.length_take]; rfl)) ?_; (with_reducible refine (impl_CurvaturesOf.calls kj135 _ _ t866 t881 true _ ?side1 ?side2 A142.out).mono ?_); (case side1 => repeat (first | exact (Kd.R_reads' HO_29.out).2.2 | (with_reducible refine Kd.C_alloc ?_ _) | (with_reducible refine Kd.C_drewN ?_ _) | (with_reducible refine Kd.C_drew ?_))); (case side2 => exact (Kd.R_reads' HO_29.out).2.1); rintro e w156 ⟨v883, rfl, ho0, hb⟩; refine ⟨_, rfl, ?_⟩; have n0_ := Aside0.mk (Kd.R_below (by (with_reducible repeat (first | apply Kd.R_alloc | apply Kd.R_drewN | apply Kd.R_drew)); exact HO_27.out) hb); have n1_ := Aside0.mk (Kd.R_elder' (by (with_reducible repeat (first | apply Kd.R_alloc | apply Kd.R_drewN | apply Kd.R_drew)); exact HO_28.out) (Kd.R_base ho0) hb); have n2_ := Aside0.mk (Kd.R_below (by (with_reducible repeat (first | apply Kd.R_alloc | apply Kd.R_drewN | apply Kd.R_drew)); exact HO_29.out) hb); have n3_ := Aside0.mk (Kd.R_elder' (by (with_reducible repeat (first | apply Kd.R_alloc | apply Kd.R_drewN | apply Kd.R_drew)); exact HO880.out) (Kd.R_base ho0) hb); have n4_ := Aside0.mk (Kd.R_lower (Kd.R_new' (Kd.R_new' ho0 (Kd.R_lt (by (with_reducible repeat (first | apply Kd.R_alloc | apply Kd.R_drewN | apply Kd.R_drew)); exact HO_28.out))) (Kd.R_lt (by (with_reducible repeat (first | apply Kd.R_alloc | apply Kd.R_drewN | apply Kd.R_drew)); exact HO880.out))) (below_size (by repeat (first | (with_reducible first | exact HB.out | apply below_alloc | apply pw_below_drewN | apply below_drew1) | exact HB.out)))); have n5_ := Aside0.mk (below_step (by repeat (first | (with_reducible first | exact HB.out | apply below_alloc | apply pw_below_drewN | apply below_drew1) | exact HB.out)) hb); clear HO_27; clear HO_28; clear HO_29; clear HO880; clear HB; have HO_27 := n0_; have HO_28 := n1_; have HO_29 := n2_; have HO880 := n3_; have HO884 := n4_; have HB := n5_; clear n0_ n1_ n2_ n3_ n4_ n5_; (try clear hb); (try clear hb2); (try clear hk); (try clear hi); (try clear ho0); obtain ⟨Ao157, co157, eo157⟩ := Kd.R_slice HO880.out; subst eo157) | ((with_reducible refine gate_callee (f := 45) rfl ?_); refine goesL_ (some 231) rfl rfl Try.func45 (by kernel_rfl) rfl #[.slice Ao157 t877.length co157, .slice Ao125 t861.length co125] rfl (by (try simp only [List.map_toArray, List.map_cons, List.map_nil]); first | done | rfl | (simp only [List.length_drop, List.length_take]; rfl)) ?_; (with_reducible refine (impl_FollowSwaps.calls kj135 _ _ t877 _ _ t861 t885 true _ ?side1 ?side2 ?side3 ?side4 A143.out).mono ?_); (case side1 => repeat (first | exact (Kd.R_reads' HO880.out).2.2 | (with_reducible refine Kd.C_alloc ?_ _) | (with_reducible refine Kd.C_drewN ?_ _) | (with_reducible refine Kd.C_drew ?_))); (case side2 => exact (Kd.R_reads' HO880.out).2.1); (case side3 => repeat (first | exact (Kd.R_reads' HO_28.out).2.2 | (with_reducible refine Kd.C_alloc ?_ _) | (with_reducible refine Kd.C_drewN ?_ _) | (with_reducible refine Kd.C_drew ?_))); (case side4 => exact (Kd.R_reads' HO_28.out).2.1); rintro e w158 ⟨v887, rfl, ho0, hb⟩; refine ⟨_, rfl, ?_⟩; have n0_ := Aside0.mk (Kd.R_below (by (with_reducible repeat (first | apply Kd.R_alloc | apply Kd.R_drewN | apply Kd.R_drew)); exact HO_27.out) hb); have n1_ := Aside0.mk (Kd.R_elder' (by (with_reducible repeat (first | apply Kd.R_alloc | apply Kd.R_drewN | apply Kd.R_drew)); exact HO_28.out) (Kd.R_base ho0) hb); have n2_ := Aside0.mk (Kd.R_below (by (with_reducible repeat (first | apply Kd.R_alloc | apply Kd.R_drewN | apply Kd.R_drew)); exact HO_29.out) hb); have n3_ := Aside0.mk (Kd.R_elder' (by (with_reducible repeat (first | apply Kd.R_alloc | apply Kd.R_drewN | apply Kd.R_drew)); exact HO880.out) (Kd.R_base ho0) hb); have n4_ := Aside0.mk (Kd.R_elder' (by (with_reducible repeat (first | apply Kd.R_alloc | apply Kd.R_drewN | apply Kd.R_drew)); exact HO884.out) (Kd.R_base ho0) hb); have n5_ := Aside0.mk (Kd.R_lower (Kd.R_new' (Kd.R_new' (Kd.R_new' ho0 (Kd.R_lt (by (with_reducible repeat (first | apply Kd.R_alloc | apply Kd.R_drewN | apply Kd.R_drew)); exact HO_28.out))) (Kd.R_lt (by (with_reducible repeat (first | apply Kd.R_alloc | apply Kd.R_drewN | apply Kd.R_drew)); exact HO880.out))) (Kd.R_lt (by (with_reducible repeat (first | apply Kd.R_alloc | apply Kd.R_drewN | apply Kd.R_drew)); exact HO884.out))) (below_size (by repeat (first | (with_reducible first | exact HB.out | apply below_alloc | apply pw_below_drewN | apply below_drew1) | exact HB.out)))); have n6_ := Aside0.mk (below_step (by repeat (first | (with_reducible first | exact HB.out | apply below_alloc | apply pw_below_drewN | apply below_drew1) | exact HB.out)) hb); clear HO_27; clear HO_28; clear HO_29; clear HO880; clear HO884; clear HB; have HO_27 := n0_; have HO_28 := n1_; have HO_29 := n2_; have HO880 := n3_; have HO884 := n4_; have HO888 := n5_; have HB := n6_; clear n0_ n1_ n2_ n3_ n4_ n5_ n6_; (try clear hb); (try clear hb2); (try clear hk); (try clear hi); (try clear ho0); obtain ⟨Ao159, co159, eo159⟩ := Kd.R_slice HO888.out; subst eo159; obtain ⟨Ao160, co160, eo160⟩ := Kd.R_slice HO884.out; subst eo160) | (go_at_call 14; (with_reducible refine (laws_dSame.calls kj135 _ _ t885 _ _ t881 false _ ?side1 ?side2 ?side3 ?side4 A147.out).mono ?_); (case side1 => repeat (first | exact (Kd.R_reads' HO888.out).2.2 | (with_reducible refine Kd.C_alloc ?_ _) | (with_reducible refine Kd.C_drewN ?_ _) | (with_reducible refine Kd.C_drew ?_))); (case side2 => exact (Kd.R_reads' HO888.out).2.1); (case side3 => repeat (first | exact (Kd.R_reads' HO884.out).2.2 | (with_reducible refine Kd.C_alloc ?_ _) | (with_reducible refine Kd.C_drewN ?_ _) | (with_reducible refine Kd.C_drew ?_))); (case side4 => exact (Kd.R_reads' HO884.out).2.1); rintro e w' ⟨rfl, ⟨nd, rfl⟩⟩))
                      go_ret
                      exact ⟨by first | rfl | (simp [errW_none, errW_some] <;> rfl) | (simp [*, errW_none, errW_some] <;> rfl), by repeat (first | (with_reducible first | exact HB.out | apply below_alloc | apply pw_below_drewN | apply below_drew1) | exact HB.out)⟩
                    ·
                     replace c146 := Bool.eq_false_iff.mpr c146
                     subst c146
                     have H1 : (laws_FnConfigurations.j5 kj135 l1) = some r := by rw [if_neg (show ¬ (false = true) by decide)] at H; exact H
                     clear H
                     have H := H1
                     clear H1
                     have H' := Aside0.mk H
                     clear H
                     go_wp2_with (first | ((with_reducible refine gate_callee (f := 39) rfl ?_); refine goesL_ (some 220) rfl rfl Try.func39 (by kernel_rfl) rfl #[.slice Ao124 t860.length co124] rfl (by (try simp only [List.map_toArray, List.map_cons, List.map_nil]); first | done | rfl | (simp only [List.length_drop, List.length_take]; rfl)) ?_; (with_reducible refine (impl_CurvaturesOf.calls kj135 _ _ t860 t877 true _ ?side1 ?side2 A141.out).mono ?_); (case side1 => repeat (first | exact (Kd.R_reads' HO_27.out).2.2 | (with_reducible refine Kd.C_alloc ?_ _) | (with_reducible refine Kd.C_drewN ?_ _) | (with_reducible refine Kd.C_drew ?_))); (case side2 => exact (Kd.R_reads' HO_27.out).2.1); rintro e w161 ⟨v879, rfl, ho0, hb⟩; refine ⟨_, rfl, ?_⟩; have n0_ := Aside0.mk (Kd.R_below (by (with_reducible repeat (first | apply Kd.R_alloc | apply Kd.R_drewN | apply Kd.R_drew)); exact HO_27.out) hb); have n1_ := Aside0.mk (Kd.R_elder' (by (with_reducible repeat (first | apply Kd.R_alloc | apply Kd.R_drewN | apply Kd.R_drew)); exact HO_28.out) (Kd.R_base ho0) hb); have n2_ := Aside0.mk (Kd.R_below (by (with_reducible repeat (first | apply Kd.R_alloc | apply Kd.R_drewN | apply Kd.R_drew)); exact HO_29.out) hb); have n3_ := Aside0.mk (Kd.R_lower (Kd.R_new' ho0 (Kd.R_lt (by (with_reducible repeat (first | apply Kd.R_alloc | apply Kd.R_drewN | apply Kd.R_drew)); exact HO_28.out))) (below_size (by repeat (first | (with_reducible first | exact HB.out | apply below_alloc | apply pw_below_drewN | apply below_drew1) | exact HB.out)))); have n4_ := Aside0.mk (below_step (by repeat (first | (with_reducible first | exact HB.out | apply below_alloc | apply pw_below_drewN | apply below_drew1) | exact HB.out)) hb); clear HO_27; clear HO_28; clear HO_29; clear HB; have HO_27 := n0_; have HO_28 := n1_; have HO_29 := n2_; have HO880 := n3_; have HB := n4_; clear n0_ n1_ n2_ n3_ n4_; (try clear hb); (try clear hb2); (try clear hk); (try clear hi); (try clear ho0)) | ((with_reducible refine gate_callee (f := 39) rfl ?_); refine goesL_ (some 225) rfl rfl Try.func39 (by kernel_rfl) rfl #[.slice Ao137 t866.length co137] rfl (by (try simp only [List.map_toArray, List.map_cons, List.map_nil]); first | done | rfl | (simp only [List.length_drop, List.length_take]; rfl)) ?_; (with_reducible refine (impl_CurvaturesOf.calls kj135 _ _ t866 t881 true _ ?side1 ?side2 A142.out).mono ?_); (case side1 => repeat (first | exact (Kd.R_reads' HO_29.out).2.2 | (with_reducible refine Kd.C_alloc ?_ _) | (with_reducible refine Kd.C_drewN ?_ _) | (with_reducible refine Kd.C_drew ?_))); (case side2 => exact (Kd.R_reads' HO_29.out).2.1); rintro e w162 ⟨v883, rfl, ho0, hb⟩; refine ⟨_, rfl, ?_⟩; have n0_ := Aside0.mk (Kd.R_below (by (with_reducible repeat (first | apply Kd.R_alloc | apply Kd.R_drewN | apply Kd.R_drew)); exact HO_27.out) hb); have n1_ := Aside0.mk (Kd.R_elder' (by (with_reducible repeat (first | apply Kd.R_alloc | apply Kd.R_drewN | apply Kd.R_drew)); exact HO_28.out) (Kd.R_base ho0) hb); have n2_ := Aside0.mk (Kd.R_below (by (with_reducible repeat (first | apply Kd.R_alloc | apply Kd.R_drewN | apply Kd.R_drew)); exact HO_29.out) hb); have n3_ := Aside0.mk (Kd.R_elder' (by (with_reducible repeat (first | apply Kd.R_alloc | apply Kd.R_drewN | apply Kd.R_drew)); exact HO880.out) (Kd.R_base ho0) hb); have n4_ := Aside0.mk (Kd.R_lower (Kd.R_new' (Kd.R_new' ho0 (Kd.R_lt (by (with_reducible repeat (first | apply Kd.R_alloc | apply Kd.R_drewN | apply Kd.R_drew)); exact HO_28.out))) (Kd.R_lt (by (with_reducible repeat (first | apply Kd.R_alloc | apply Kd.R_drewN | apply Kd.R_drew)); exact HO880.out))) (below_size (by repeat (first | (with_reducible first | exact HB.out | apply below_alloc | apply pw_below_drewN | apply below_drew1) | exact HB.out)))); have n5_ := Aside0.mk (below_step (by repeat (first | (with_reducible first | exact HB.out | apply below_alloc | apply pw_below_drewN | apply below_drew1) | exact HB.out)) hb); clear HO_27; clear HO_28; clear HO_29; clear HO880; clear HB; have HO_27 := n0_; have HO_28 := n1_; have HO_29 := n2_; have HO880 := n3_; have HO884 := n4_; have HB := n5_; clear n0_ n1_ n2_ n3_ n4_ n5_; (try clear hb); (try clear hb2); (try clear hk); (try clear hi); (try clear ho0); obtain ⟨Ao163, co163, eo163⟩ := Kd.R_slice HO880.out; subst eo163) | ((with_reducible refine gate_callee (f := 45) rfl ?_); refine goesL_ (some 231) rfl rfl Try.func45 (by kernel_rfl) rfl #[.slice Ao163 t877.length co163, .slice Ao125 t861.length co125] rfl (by (try simp only [List.map_toArray, List.map_cons, List.map_nil]); first | done | rfl | (simp only [List.length_drop, List.length_take]; rfl)) ?_; (with_reducible refine (impl_FollowSwaps.calls kj135 _ _ t877 _ _ t861 t885 false _ ?side1 ?side2 ?side3 ?side4 A143.out).mono ?_); (case side1 => repeat (first | exact (Kd.R_reads' HO880.out).2.2 | (with_reducible refine Kd.C_alloc ?_ _) | (with_reducible refine Kd.C_drewN ?_ _) | (with_reducible refine Kd.C_drew ?_))); (case side2 => exact (Kd.R_reads' HO880.out).2.1); (case side3 => repeat (first | exact (Kd.R_reads' HO_28.out).2.2 | (with_reducible refine Kd.C_alloc ?_ _) | (with_reducible refine Kd.C_drewN ?_ _) | (with_reducible refine Kd.C_drew ?_))); (case side4 => exact (Kd.R_reads' HO_28.out).2.1); rintro e w164 ⟨v887, rfl, ho0, hb⟩; refine ⟨_, rfl, ?_⟩; have n0_ := Aside0.mk (Kd.R_below (by (with_reducible repeat (first | apply Kd.R_alloc | apply Kd.R_drewN | apply Kd.R_drew)); exact HO_27.out) hb); have n1_ := Aside0.mk (Kd.R_elder' (by (with_reducible repeat (first | apply Kd.R_alloc | apply Kd.R_drewN | apply Kd.R_drew)); exact HO_28.out) (Kd.R_base ho0) hb); have n2_ := Aside0.mk (Kd.R_below (by (with_reducible repeat (first | apply Kd.R_alloc | apply Kd.R_drewN | apply Kd.R_drew)); exact HO_29.out) hb); have n3_ := Aside0.mk (Kd.R_elder' (by (with_reducible repeat (first | apply Kd.R_alloc | apply Kd.R_drewN | apply Kd.R_drew)); exact HO880.out) (Kd.R_base ho0) hb); have n4_ := Aside0.mk (Kd.R_elder' (by (with_reducible repeat (first | apply Kd.R_alloc | apply Kd.R_drewN | apply Kd.R_drew)); exact HO884.out) (Kd.R_base ho0) hb); have n5_ := Aside0.mk (Kd.R_lower (Kd.R_new' (Kd.R_new' (Kd.R_new' ho0 (Kd.R_lt (by (with_reducible repeat (first | apply Kd.R_alloc | apply Kd.R_drewN | apply Kd.R_drew)); exact HO_28.out))) (Kd.R_lt (by (with_reducible repeat (first | apply Kd.R_alloc | apply Kd.R_drewN | apply Kd.R_drew)); exact HO880.out))) (Kd.R_lt (by (with_reducible repeat (first | apply Kd.R_alloc | apply Kd.R_drewN | apply Kd.R_drew)); exact HO884.out))) (below_size (by repeat (first | (with_reducible first | exact HB.out | apply below_alloc | apply pw_below_drewN | apply below_drew1) | exact HB.out)))); have n6_ := Aside0.mk (below_step (by repeat (first | (with_reducible first | exact HB.out | apply below_alloc | apply pw_below_drewN | apply below_drew1) | exact HB.out)) hb); clear HO_27; clear HO_28; clear HO_29; clear HO880; clear HO884; clear HB; have HO_27 := n0_; have HO_28 := n1_; have HO_29 := n2_; have HO880 := n3_; have HO884 := n4_; have HO888 := n5_; have HB := n6_; clear n0_ n1_ n2_ n3_ n4_ n5_ n6_; (try clear hb); (try clear hb2); (try clear hk); (try clear hi); (try clear ho0)))
                     go_meet
                     case rel => exact ⟨_, H', ⟨by have := HJ9.out; have := HJ35.out; have := HJ46.out; have := HJ121.out; have := HJ135.out; first | omega | exact Nat.le_refl _⟩, ⟨by repeat (first | (with_reducible first | exact HB.out | apply below_alloc | apply pw_below_drewN | apply below_drew1) | exact HB.out)⟩⟩
                   ·
                    replace c145 := Bool.eq_false_iff.mpr c145
                    subst c145
                    have H1 : (some false) = some r := by rw [if_neg (show ¬ (false = true) by decide)] at H; exact H
                    clear H
                    have H := H1
                    clear H1
                    obtain rfl := Option.some.inj H
                    go_wp2_with (first | ((with_reducible refine gate_callee (f := 39) rfl ?_); refine goesL_ (some 220) rfl rfl Try.func39 (by kernel_rfl) rfl #[.slice Ao124 t860.length co124] rfl (by (try simp only [List.map_toArray, List.map_cons, List.map_nil]); first | done | rfl | (simp only [List.length_drop, List.length_take]; rfl)) ?_; (with_reducible refine (impl_CurvaturesOf.calls kj135 _ _ t860 t877 true _ ?side1 ?side2 A141.out).mono ?_); (case side1 => repeat (first | exact (Kd.R_reads' HO_27.out).2.2 | (with_reducible refine Kd.C_alloc ?_ _) | (with_reducible refine Kd.C_drewN ?_ _) | (with_reducible refine Kd.C_drew ?_))); (case side2 => exact (Kd.R_reads' HO_27.out).2.1); rintro e w165 ⟨v879, rfl, ho0, hb⟩; refine ⟨_, rfl, ?_⟩; have n0_ := Aside0.mk (Kd.R_below (by (with_reducible repeat (first | apply Kd.R_alloc | apply Kd.R_drewN | apply Kd.R_drew)); exact HO_27.out) hb); have n1_ := Aside0.mk (Kd.R_elder' (by (with_reducible repeat (first | apply Kd.R_alloc | apply Kd.R_drewN | apply Kd.R_drew)); exact HO_28.out) (Kd.R_base ho0) hb); have n2_ := Aside0.mk (Kd.R_below (by (with_reducible repeat (first | apply Kd.R_alloc | apply Kd.R_drewN | apply Kd.R_drew)); exact HO_29.out) hb); have n3_ := Aside0.mk (Kd.R_lower (Kd.R_new' ho0 (Kd.R_lt (by (with_reducible repeat (first | apply Kd.R_alloc | apply Kd.R_drewN | apply Kd.R_drew)); exact HO_28.out))) (below_size (by repeat (first | (with_reducible first | exact HB.out | apply below_alloc | apply pw_below_drewN | apply below_drew1) | exact HB.out)))); have n4_ := Aside0.mk (below_step (by repeat (first | (with_reducible first | exact HB.out | apply below_alloc | apply pw_below_drewN | apply below_drew1) | exact HB.out)) hb); clear HO_27; clear HO_28; clear HO_29; clear HB; have HO_27 := n0_; have HO_28 := n1_; have HO_29 := n2_; have HO880 := n3_; have HB := n4_; clear n0_ n1_ n2_ n3_ n4_; (try clear hb); (try clear hb2); (try clear hk); (try clear hi); (try clear ho0)) | ((with_reducible refine gate_callee (f := 39) rfl ?_); refine goesL_ (some 225) rfl rfl Try.func39 (by kernel_rfl) rfl #[.slice Ao137 t866.length co137] rfl (by (try simp only [List.map_toArray, List.map_cons, List.map_nil]); first | done | rfl | (simp only [List.length_drop, List.length_take]; rfl)) ?_; (with_reducible refine (impl_CurvaturesOf.calls kj135 _ _ t866 t881 false _ ?side1 ?side2 A142.out).mono ?_); (case side1 => repeat (first | exact (Kd.R_reads' HO_29.out).2.2 | (with_reducible refine Kd.C_alloc ?_ _) | (with_reducible refine Kd.C_drewN ?_ _) | (with_reducible refine Kd.C_drew ?_))); (case side2 => exact (Kd.R_reads' HO_29.out).2.1); rintro e w166 ⟨v883, rfl, ho0, hb⟩; refine ⟨_, rfl, ?_⟩; have n0_ := Aside0.mk (Kd.R_below (by (with_reducible repeat (first | apply Kd.R_alloc | apply Kd.R_drewN | apply Kd.R_drew)); exact HO_27.out) hb); have n1_ := Aside0.mk (Kd.R_elder' (by (with_reducible repeat (first | apply Kd.R_alloc | apply Kd.R_drewN | apply Kd.R_drew)); exact HO_28.out) (Kd.R_base ho0) hb); have n2_ := Aside0.mk (Kd.R_below (by (with_reducible repeat (first | apply Kd.R_alloc | apply Kd.R_drewN | apply Kd.R_drew)); exact HO_29.out) hb); have n3_ := Aside0.mk (Kd.R_elder' (by (with_reducible repeat (first | apply Kd.R_alloc | apply Kd.R_drewN | apply Kd.R_drew)); exact HO880.out) (Kd.R_base ho0) hb); have n4_ := Aside0.mk (Kd.R_lower (Kd.R_new' (Kd.R_new' ho0 (Kd.R_lt (by (with_reducible repeat (first | apply Kd.R_alloc | apply Kd.R_drewN | apply Kd.R_drew)); exact HO_28.out))) (Kd.R_lt (by (with_reducible repeat (first | apply Kd.R_alloc | apply Kd.R_drewN | apply Kd.R_drew)); exact HO880.out))) (below_size (by repeat (first | (with_reducible first | exact HB.out | apply below_alloc | apply pw_below_drewN | apply below_drew1) | exact HB.out)))); have n5_ := Aside0.mk (below_step (by repeat (first | (with_reducible first | exact HB.out | apply below_alloc | apply pw_below_drewN | apply below_drew1) | exact HB.out)) hb); clear HO_27; clear HO_28; clear HO_29; clear HO880; clear HB; have HO_27 := n0_; have HO_28 := n1_; have HO_29 := n2_; have HO880 := n3_; have HO884 := n4_; have HB := n5_; clear n0_ n1_ n2_ n3_ n4_ n5_; (try clear hb); (try clear hb2); (try clear hk); (try clear hi); (try clear ho0); obtain ⟨Ao167, co167, eo167⟩ := Kd.R_slice HO880.out; subst eo167) | ((with_reducible refine gate_callee (f := 45) rfl ?_); refine goesL_ (some 231) rfl rfl Try.func45 (by kernel_rfl) rfl #[.slice Ao167 t877.length co167, .slice Ao125 t861.length co125] rfl (by (try simp only [List.map_toArray, List.map_cons, List.map_nil]); first | done | rfl | (simp only [List.length_drop, List.length_take]; rfl)) ?_; (with_reducible refine (impl_FollowSwaps.calls kj135 _ _ t877 _ _ t861 t885 t886 _ ?side1 ?side2 ?side3 ?side4 A143.out).mono ?_); (case side1 => repeat (first | exact (Kd.R_reads' HO880.out).2.2 | (with_reducible refine Kd.C_alloc ?_ _) | (with_reducible refine Kd.C_drewN ?_ _) | (with_reducible refine Kd.C_drew ?_))); (case side2 => exact (Kd.R_reads' HO880.out).2.1); (case side3 => repeat (first | exact (Kd.R_reads' HO_28.out).2.2 | (with_reducible refine Kd.C_alloc ?_ _) | (with_reducible refine Kd.C_drewN ?_ _) | (with_reducible refine Kd.C_drew ?_))); (case side4 => exact (Kd.R_reads' HO_28.out).2.1); rintro e w168 ⟨v887, rfl, ho0, hb⟩; refine ⟨_, rfl, ?_⟩; have n0_ := Aside0.mk (Kd.R_below (by (with_reducible repeat (first | apply Kd.R_alloc | apply Kd.R_drewN | apply Kd.R_drew)); exact HO_27.out) hb); have n1_ := Aside0.mk (Kd.R_elder' (by (with_reducible repeat (first | apply Kd.R_alloc | apply Kd.R_drewN | apply Kd.R_drew)); exact HO_28.out) (Kd.R_base ho0) hb); have n2_ := Aside0.mk (Kd.R_below (by (with_reducible repeat (first | apply Kd.R_alloc | apply Kd.R_drewN | apply Kd.R_drew)); exact HO_29.out) hb); have n3_ := Aside0.mk (Kd.R_elder' (by (with_reducible repeat (first | apply Kd.R_alloc | apply Kd.R_drewN | apply Kd.R_drew)); exact HO880.out) (Kd.R_base ho0) hb); have n4_ := Aside0.mk (Kd.R_elder' (by (with_reducible repeat (first | apply Kd.R_alloc | apply Kd.R_drewN | apply Kd.R_drew)); exact HO884.out) (Kd.R_base ho0) hb); have n5_ := Aside0.mk (Kd.R_lower (Kd.R_new' (Kd.R_new' (Kd.R_new' ho0 (Kd.R_lt (by (with_reducible repeat (first | apply Kd.R_alloc | apply Kd.R_drewN | apply Kd.R_drew)); exact HO_28.out))) (Kd.R_lt (by (with_reducible repeat (first | apply Kd.R_alloc | apply Kd.R_drewN | apply Kd.R_drew)); exact HO880.out))) (Kd.R_lt (by (with_reducible repeat (first | apply Kd.R_alloc | apply Kd.R_drewN | apply Kd.R_drew)); exact HO884.out))) (below_size (by repeat (first | (with_reducible first | exact HB.out | apply below_alloc | apply pw_below_drewN | apply below_drew1) | exact HB.out)))); have n6_ := Aside0.mk (below_step (by repeat (first | (with_reducible first | exact HB.out | apply below_alloc | apply pw_below_drewN | apply below_drew1) | exact HB.out)) hb); clear HO_27; clear HO_28; clear HO_29; clear HO880; clear HO884; clear HB; have HO_27 := n0_; have HO_28 := n1_; have HO_29 := n2_; have HO880 := n3_; have HO884 := n4_; have HO888 := n5_; have HB := n6_; clear n0_ n1_ n2_ n3_ n4_ n5_ n6_; (try clear hb); (try clear hb2); (try clear hk); (try clear hi); (try clear ho0)))
                    go_ret
                    exact ⟨by first | rfl | (simp [errW_none, errW_some] <;> rfl) | (simp [*, errW_none, errW_some] <;> rfl), by repeat (first | (with_reducible first | exact HB.out | apply below_alloc | apply pw_below_drewN | apply below_drew1) | exact HB.out)⟩
                  ·
                   replace c144 := Bool.eq_false_iff.mpr c144
                   subst c144
                   have H1 : (some false) = some r := by rw [if_neg (show ¬ (false = true) by decide)] at H; exact H
                   clear H
                   have H := H1
                   clear H1
                   obtain rfl := Option.some.inj H
                   go_wp2_with (first | ((with_reducible refine gate_callee (f := 39) rfl ?_); refine goesL_ (some 220) rfl rfl Try.func39 (by kernel_rfl) rfl #[.slice Ao124 t860.length co124] rfl (by (try simp only [List.map_toArray, List.map_cons, List.map_nil]); first | done | rfl | (simp only [List.length_drop, List.length_take]; rfl)) ?_; (with_reducible refine (impl_CurvaturesOf.calls kj135 _ _ t860 t877 false _ ?side1 ?side2 A141.out).mono ?_); (case side1 => repeat (first | exact (Kd.R_reads' HO_27.out).2.2 | (with_reducible refine Kd.C_alloc ?_ _) | (with_reducible refine Kd.C_drewN ?_ _) | (with_reducible refine Kd.C_drew ?_))); (case side2 => exact (Kd.R_reads' HO_27.out).2.1); rintro e w169 ⟨v879, rfl, ho0, hb⟩; refine ⟨_, rfl, ?_⟩; have n0_ := Aside0.mk (Kd.R_below (by (with_reducible repeat (first | apply Kd.R_alloc | apply Kd.R_drewN | apply Kd.R_drew)); exact HO_27.out) hb); have n1_ := Aside0.mk (Kd.R_elder' (by (with_reducible repeat (first | apply Kd.R_alloc | apply Kd.R_drewN | apply Kd.R_drew)); exact HO_28.out) (Kd.R_base ho0) hb); have n2_ := Aside0.mk (Kd.R_below (by (with_reducible repeat (first | apply Kd.R_alloc | apply Kd.R_drewN | apply Kd.R_drew)); exact HO_29.out) hb); have n3_ := Aside0.mk (Kd.R_lower (Kd.R_new' ho0 (Kd.R_lt (by (with_reducible repeat (first | apply Kd.R_alloc | apply Kd.R_drewN | apply Kd.R_drew)); exact HO_28.out))) (below_size (by repeat (first | (with_reducible first | exact HB.out | apply below_alloc | apply pw_below_drewN | apply below_drew1) | exact HB.out)))); have n4_ := Aside0.mk (below_step (by repeat (first | (with_reducible first | exact HB.out | apply below_alloc | apply pw_below_drewN | apply below_drew1) | exact HB.out)) hb); clear HO_27; clear HO_28; clear HO_29; clear HB; have HO_27 := n0_; have HO_28 := n1_; have HO_29 := n2_; have HO880 := n3_; have HB := n4_; clear n0_ n1_ n2_ n3_ n4_; (try clear hb); (try clear hb2); (try clear hk); (try clear hi); (try clear ho0)) | ((with_reducible refine gate_callee (f := 39) rfl ?_); refine goesL_ (some 225) rfl rfl Try.func39 (by kernel_rfl) rfl #[.slice Ao137 t866.length co137] rfl (by (try simp only [List.map_toArray, List.map_cons, List.map_nil]); first | done | rfl | (simp only [List.length_drop, List.length_take]; rfl)) ?_; (with_reducible refine (impl_CurvaturesOf.calls kj135 _ _ t866 t881 t882 _ ?side1 ?side2 A142.out).mono ?_); (case side1 => repeat (first | exact (Kd.R_reads' HO_29.out).2.2 | (with_reducible refine Kd.C_alloc ?_ _) | (with_reducible refine Kd.C_drewN ?_ _) | (with_reducible refine Kd.C_drew ?_))); (case side2 => exact (Kd.R_reads' HO_29.out).2.1); rintro e w170 ⟨v883, rfl, ho0, hb⟩; refine ⟨_, rfl, ?_⟩; have n0_ := Aside0.mk (Kd.R_below (by (with_reducible repeat (first | apply Kd.R_alloc | apply Kd.R_drewN | apply Kd.R_drew)); exact HO_27.out) hb); have n1_ := Aside0.mk (Kd.R_elder' (by (with_reducible repeat (first | apply Kd.R_alloc | apply Kd.R_drewN | apply Kd.R_drew)); exact HO_28.out) (Kd.R_base ho0) hb); have n2_ := Aside0.mk (Kd.R_below (by (with_reducible repeat (first | apply Kd.R_alloc | apply Kd.R_drewN | apply Kd.R_drew)); exact HO_29.out) hb); have n3_ := Aside0.mk (Kd.R_elder' (by (with_reducible repeat (first | apply Kd.R_alloc | apply Kd.R_drewN | apply Kd.R_drew)); exact HO880.out) (Kd.R_base ho0) hb); have n4_ := Aside0.mk (Kd.R_lower (Kd.R_new' (Kd.R_new' ho0 (Kd.R_lt (by (with_reducible repeat (first | apply Kd.R_alloc | apply Kd.R_drewN | apply Kd.R_drew)); exact HO_28.out))) (Kd.R_lt (by (with_reducible repeat (first | apply Kd.R_alloc | apply Kd.R_drewN | apply Kd.R_drew)); exact HO880.out))) (below_size (by repeat (first | (with_reducible first | exact HB.out | apply below_alloc | apply pw_below_drewN | apply below_drew1) | exact HB.out)))); have n5_ := Aside0.mk (below_step (by repeat (first | (with_reducible first | exact HB.out | apply below_alloc | apply pw_below_drewN | apply below_drew1) | exact HB.out)) hb); clear HO_27; clear HO_28; clear HO_29; clear HO880; clear HB; have HO_27 := n0_; have HO_28 := n1_; have HO_29 := n2_; have HO880 := n3_; have HO884 := n4_; have HB := n5_; clear n0_ n1_ n2_ n3_ n4_ n5_; (try clear hb); (try clear hb2); (try clear hk); (try clear hi); (try clear ho0); obtain ⟨Ao171, co171, eo171⟩ := Kd.R_slice HO880.out; subst eo171) | ((with_reducible refine gate_callee (f := 45) rfl ?_); refine goesL_ (some 231) rfl rfl Try.func45 (by kernel_rfl) rfl #[.slice Ao171 t877.length co171, .slice Ao125 t861.length co125] rfl (by (try simp only [List.map_toArray, List.map_cons, List.map_nil]); first | done | rfl | (simp only [List.length_drop, List.length_take]; rfl)) ?_; (with_reducible refine (impl_FollowSwaps.calls kj135 _ _ t877 _ _ t861 t885 t886 _ ?side1 ?side2 ?side3 ?side4 A143.out).mono ?_); (case side1 => repeat (first | exact (Kd.R_reads' HO880.out).2.2 | (with_reducible refine Kd.C_alloc ?_ _) | (with_reducible refine Kd.C_drewN ?_ _) | (with_reducible refine Kd.C_drew ?_))); (case side2 => exact (Kd.R_reads' HO880.out).2.1); (case side3 => repeat (first | exact (Kd.R_reads' HO_28.out).2.2 | (with_reducible refine Kd.C_alloc ?_ _) | (with_reducible refine Kd.C_drewN ?_ _) | (with_reducible refine Kd.C_drew ?_))); (case side4 => exact (Kd.R_reads' HO_28.out).2.1); rintro e w172 ⟨v887, rfl, ho0, hb⟩; refine ⟨_, rfl, ?_⟩; have n0_ := Aside0.mk (Kd.R_below (by (with_reducible repeat (first | apply Kd.R_alloc | apply Kd.R_drewN | apply Kd.R_drew)); exact HO_27.out) hb); have n1_ := Aside0.mk (Kd.R_elder' (by (with_reducible repeat (first | apply Kd.R_alloc | apply Kd.R_drewN | apply Kd.R_drew)); exact HO_28.out) (Kd.R_base ho0) hb); have n2_ := Aside0.mk (Kd.R_below (by (with_reducible repeat (first | apply Kd.R_alloc | apply Kd.R_drewN | apply Kd.R_drew)); exact HO_29.out) hb); have n3_ := Aside0.mk (Kd.R_elder' (by (with_reducible repeat (first | apply Kd.R_alloc | apply Kd.R_drewN | apply Kd.R_drew)); exact HO880.out) (Kd.R_base ho0) hb); have n4_ := Aside0.mk (Kd.R_elder' (by (with_reducible repeat (first | apply Kd.R_alloc | apply Kd.R_drewN | apply Kd.R_drew)); exact HO884.out) (Kd.R_base ho0) hb); have n5_ := Aside0.mk (Kd.R_lower (Kd.R_new' (Kd.R_new' (Kd.R_new' ho0 (Kd.R_lt (by (with_reducible repeat (first | apply Kd.R_alloc | apply Kd.R_drewN | apply Kd.R_drew)); exact HO_28.out))) (Kd.R_lt (by (with_reducible repeat (first | apply Kd.R_alloc | apply Kd.R_drewN | apply Kd.R_drew)); exact HO880.out))) (Kd.R_lt (by (with_reducible repeat (first | apply Kd.R_alloc | apply Kd.R_drewN | apply Kd.R_drew)); exact HO884.out))) (below_size (by repeat (first | (with_reducible first | exact HB.out | apply below_alloc | apply pw_below_drewN | apply below_drew1) | exact HB.out)))); have n6_ := Aside0.mk (below_step (by repeat (first | (with_reducible first | exact HB.out | apply below_alloc | apply pw_below_drewN | apply below_drew1) | exact HB.out)) hb); clear HO_27; clear HO_28; clear HO_29; clear HO880; clear HO884; clear HB; have HO_27 := n0_; have HO_28 := n1_; have HO_29 := n2_; have HO880 := n3_; have HO884 := n4_; have HO888 := n5_; have HB := n6_; clear n0_ n1_ n2_ n3_ n4_ n5_ n6_; (try clear hb); (try clear hb2); (try clear hk); (try clear hi); (try clear ho0)))
                   go_ret
                   exact ⟨by first | rfl | (simp [errW_none, errW_some] <;> rfl) | (simp [*, errW_none, errW_some] <;> rfl), by repeat (first | (with_reducible first | exact HB.out | apply below_alloc | apply pw_below_drewN | apply below_drew1) | exact HB.out)⟩
              ·
               replace c134 := Bool.eq_false_iff.mpr c134
               subst c134
               have H1 : (laws_FnConfigurations.j5 kj121 l1) = some r := by rw [if_neg (show ¬ (false = true) by decide)] at H; exact H
               clear H
               have H := H1
               clear H1
               have H' := Aside0.mk H
               clear H
               go_wp2
               go_meet
               case rel => exact ⟨_, H', ⟨by have := HJ9.out; have := HJ35.out; have := HJ46.out; have := HJ121.out; first | omega | exact Nat.le_refl _⟩, ⟨by repeat (first | (with_reducible first | exact HB.out | apply below_alloc | apply pw_below_drewN | apply below_drew1) | exact HB.out)⟩⟩
             case rest =>
              clear HC133
              try clear c1
              try clear c2
              try clear p2
              try clear c3
              try clear c4
              try clear c5
              try clear c6
              try clear c12
              try clear c13
              try clear c14
              try clear c17
              try clear c17b0
              try clear c17b1
              try clear c17b2
              try clear c19
              try clear c20
              try clear c20b0
              try clear c20b1
              try clear c20b2
              try clear c23
              try clear c23b0
              try clear c23b1
              try clear c23b2
              try clear c26
              try clear c33
              try clear c34
              try clear c35
              try clear c36
              try clear c37
              try clear c39
              try clear c39b0
              try clear c39b1
              try clear c39b2
              try clear c40
              try clear c41
              try clear c42
              try clear c43
              try clear c44
              try clear c45
              try clear c46
              try clear c48
              try clear c53
              try clear c54
              try clear c55
              try clear c57
              try clear c58
              try clear c59
              try clear c61
              try clear c128
              try clear c128b0
              try clear c128b1
              try clear c128b2
              try clear c132
              try clear c134
              try clear c139
              try clear c140
              try clear c144
              try clear c145
              try clear c146
              try clear c148
              try clear p2
              obtain ⟨kq, HA, HJ132, HB⟩ := hcut
              cases kq with
              | zero => exact absurd HA.out (by simp [laws_FnConfigurations.j5])
              | succ kj132 =>
               have H := HA.out
               clear HA
               simp only [laws_FnConfigurations.j5] at H
               replace H := Option.bind_eq_some_iff.mp H
               obtain ⟨t890, A1730, H⟩ := H
               replace H : ((impl_StartConfig.f t890).bind fun bt891 => ((spec_StartConfig.f t890).bind fun bt895 => (if (bt891.2 != bt895.2) = true then (laws_FnConfigurations.j6 kj132 bt891.1 bt891.2 true) else ((laws_dCircles.f kj132 bt891.1 bt895.1).bind fun t899 => (laws_FnConfigurations.j6 kj132 bt891.1 bt891.2 (!t899)))))) = some r := H
               have A173 := Aside0.mk A1730
               clear A1730
               replace H := Option.bind_eq_some_iff.mp H
               obtain ⟨⟨t891, t892⟩, A1740, H⟩ := H
               replace H : ((spec_StartConfig.f t890).bind fun bt895 => (if (t892 != bt895.2) = true then (laws_FnConfigurations.j6 kj132 t891 t892 true) else ((laws_dCircles.f kj132 t891 bt895.1).bind fun t899 => (laws_FnConfigurations.j6 kj132 t891 t892 (!t899))))) = some r := H
               have A174 := Aside0.mk A1740
               clear A1740
               replace H := Option.bind_eq_some_iff.mp H
               obtain ⟨⟨t895, t896⟩, A1750, H⟩ := H
               replace H : (if (t892 != t896) = true then (laws_FnConfigurations.j6 kj132 t891 t892 true) else ((laws_dCircles.f kj132 t891 t895).bind fun t899 => (laws_FnConfigurations.j6 kj132 t891 t892 (!t899)))) = some r := H
               have A175 := Aside0.mk A1750
               clear A1750
               have HC176 := Aside0.mk H
               clear H
               go_upto_region 38 with (first | ((with_reducible refine gate_callee (f := 46) rfl ?_); refine goesL_ (some 250) rfl rfl Try.func46 (by kernel_rfl) rfl #[.slice A1 l1.length c1] rfl (by (try simp only [List.map_toArray, List.map_cons, List.map_nil]); first | done | rfl | (simp only [List.length_drop, List.length_take]; rfl)) ?_; (with_reducible refine (spec_DrawStartConfig.calls _ _ l1 t890 _ ?side1 ?side2 A173.out).mono ?_); (case side1 => repeat (first | exact (Kd.C_below HR1.out HB.out) | (with_reducible refine Kd.C_alloc ?_ _) | (with_reducible refine Kd.C_drewN ?_ _) | (with_reducible refine Kd.C_drew ?_))); (case side2 => exact HC1.out); rintro e w177 ⟨rfl, hb⟩; refine ⟨_, rfl, ?_⟩; have n0_ := Aside0.mk (below_step (by repeat (first | (with_reducible first | exact HB.out | apply below_alloc | apply pw_below_drewN | apply below_drew1) | exact HB.out)) hb); clear HB; have HB := n0_; clear n0_; (try clear hb); (try clear hb2); (try clear hk); (try clear hi)) | ((with_reducible refine gate_callee (f := 47) rfl ?_); refine goesL_ (some 253) rfl rfl Try.func47 (by kernel_rfl) rfl #[.int .i64 t890] rfl (by (try simp only [List.map_toArray, List.map_cons, List.map_nil]); first | done | rfl | (simp only [List.length_drop, List.length_take]; rfl)) ?_; (with_reducible refine (impl_StartConfig.calls t890 t891 t892 _ A174.out).mono ?_); rintro e w178 ⟨v893, rfl, ho0, hb⟩; refine ⟨_, rfl, ?_⟩; have n0_ := Aside0.mk (Kd.R_lower ho0 (below_size (by repeat (first | (with_reducible first | exact HB.out | apply below_alloc | apply pw_below_drewN | apply below_drew1) | exact HB.out)))); have n1_ := Aside0.mk (below_step (by repeat (first | (with_reducible first | exact HB.out | apply below_alloc | apply pw_below_drewN | apply below_drew1) | exact HB.out)) hb); clear HB; have HO894 := n0_; have HB := n1_; clear n0_ n1_; (try clear hb); (try clear hb2); (try clear hk); (try clear hi); (try clear ho0)) | ((with_reducible refine gate_callee (f := 48) rfl ?_); refine goesL_ (some 258) rfl rfl Try.func48 (by kernel_rfl) rfl #[.int .i64 t890] rfl (by (try simp only [List.map_toArray, List.map_cons, List.map_nil]); first | done | rfl | (simp only [List.length_drop, List.length_take]; rfl)) ?_; (with_reducible refine (spec_StartConfig.calls t890 t895 t896 _ A175.out).mono ?_); rintro e w179 ⟨v897, rfl, ho0, hb⟩; refine ⟨_, rfl, ?_⟩; have n0_ := Aside0.mk (Kd.R_elder' (by (with_reducible repeat (first | apply Kd.R_alloc | apply Kd.R_drewN | apply Kd.R_drew)); exact HO894.out) (Kd.R_base ho0) hb); have n1_ := Aside0.mk (Kd.R_lower (Kd.R_new' ho0 (Kd.R_lt (by (with_reducible repeat (first | apply Kd.R_alloc | apply Kd.R_drewN | apply Kd.R_drew)); exact HO894.out))) (below_size (by repeat (first | (with_reducible first | exact HB.out | apply below_alloc | apply pw_below_drewN | apply below_drew1) | exact HB.out)))); have n2_ := Aside0.mk (below_step (by repeat (first | (with_reducible first | exact HB.out | apply below_alloc | apply pw_below_drewN | apply below_drew1) | exact HB.out)) hb); clear HO894; clear HB; have HO894 := n0_; have HO898 := n1_; have HB := n2_; clear n0_ n1_ n2_; (try clear hb); (try clear hb2); (try clear hk); (try clear hi); (try clear ho0)))
               (try simp only [Act.put, List.setIfInBounds_toArray, List.set_cons_zero, List.set_cons_succ])
               go_cut [269] (fun v269 wc => ∃ (kq : Nat) (x269_175 : Bool), v269 = .bool x269_175 ∧ Aside0 (laws_FnConfigurations.j6 kq t891 t892 x269_175 = some r) ∧ Aside0 (kq ≤ kj132) ∧ Aside0 (Kd.R k38 38 wc w.heap.size (fun _ => True) v893 t891) ∧ Aside0 (Below w.heap.size w wc))
               case first => as_aux_lemma =>
                have H := HC176.out
                clear HC176
                by_cases c180 : (t892 != t896) = true
                ·
                 rw [if_pos c180] at H
                 have c180b0 : (t892 != t896) = true := c180
                 (try (have c180b1 : decide (t892 = t896) = false := by simpa using c180))
                 (try (have c180b2 : (t892 == t896) = false := by simpa using c180))
                 (try (have c180b3 : ¬ (t892 = t896) := by simpa using c180))
                 clear c180
                 (first | rw [c180b0] | (simp only [i64_w, i32_w]; rw [c180b0]) | rw [c180b1] | skip)
                 have H' := Aside0.mk H
                 clear H
                 go_wp2
                 go_meet
                 case rel => exact ⟨_, (true), (by first | rfl | (simp; done) | (simp [*]; done)), H', ⟨by have := HJ9.out; have := HJ35.out; have := HJ46.out; have := HJ121.out; have := HJ132.out; first | omega | exact Nat.le_refl _⟩, ⟨by (with_reducible repeat (first | apply Kd.R_alloc | apply Kd.R_drewN | apply Kd.R_drew)); exact Kd.R_mono HO894.out (fun _ hk => trivial)⟩, ⟨by repeat (first | (with_reducible first | exact HB.out | apply below_alloc | apply pw_below_drewN | apply below_drew1) | exact HB.out)⟩⟩
                ·
                 rw [if_neg c180] at H
                 have c180b0 : (t892 != t896) = false := by simpa using c180
                 (try (have c180b1 : decide (t892 = t896) = true := by simpa using c180))
                 (try (have c180b2 : (t892 == t896) = true := by simpa using c180))
                 clear c180
                 (first | rw [c180b0] | (simp only [i64_w, i32_w]; rw [c180b0]) | rw [c180b1] | skip)
                 replace H := Option.bind_eq_some_iff.mp H
                 obtain ⟨t899, A1810, H⟩ := H
                 replace H : (laws_FnConfigurations.j6 kj132 t891 t892 (!t899)) = some r := H
                 have A181 := Aside0.mk A1810
                 clear A1810
                 have H' := Aside0.mk H
                 clear H
                 obtain ⟨Ao182, co182, eo182⟩ := Kd.R_slice HO894.out
                 subst eo182
                 obtain ⟨Ao183, co183, eo183⟩ := Kd.R_slice HO898.out
                 subst eo183
                 go_wp2_with (first | (go_at_call 38; (with_reducible refine (laws_dCircles.calls kj132 _ _ t891 _ _ t895 t899 _ ?side1 ?side2 ?side3 ?side4 A181.out).mono ?_); (case side1 => repeat (first | exact (Kd.R_reads' HO894.out).2.2 | (with_reducible refine Kd.C_alloc ?_ _) | (with_reducible refine Kd.C_drewN ?_ _) | (with_reducible refine Kd.C_drew ?_))); (case side2 => exact (Kd.R_reads' HO894.out).2.1); (case side3 => repeat (first | exact (Kd.R_reads' HO898.out).2.2 | (with_reducible refine Kd.C_alloc ?_ _) | (with_reducible refine Kd.C_drewN ?_ _) | (with_reducible refine Kd.C_drew ?_))); (case side4 => exact (Kd.R_reads' HO898.out).2.1); rintro e w' ⟨rfl, ⟨nd, rfl⟩⟩))
                 go_meet
                 case rel => exact ⟨_, (!t899), (by first | rfl | (simp; done) | (simp [*]; done)), H', ⟨by have := HJ9.out; have := HJ35.out; have := HJ46.out; have := HJ121.out; have := HJ132.out; first | omega | exact Nat.le_refl _⟩, ⟨by (with_reducible repeat (first | apply Kd.R_alloc | apply Kd.R_drewN | apply Kd.R_drew)); exact Kd.R_mono HO894.out (fun _ hk => trivial)⟩, ⟨by repeat (first | (with_reducible first | exact HB.out | apply below_alloc | apply pw_below_drewN | apply below_drew1) | exact HB.out)⟩⟩
               case rest =>
                clear HC176
                try clear c1
                try clear c2
                try clear p2
                try clear c3
                try clear c4
                try clear c5
                try clear c6
                try clear c12
                try clear c13
                try clear c14
                try clear c17
                try clear c17b0
                try clear c17b1
                try clear c17b2
                try clear c18
                try clear c19
                try clear c20
                try clear c20b0
                try clear c20b1
                try clear c20b2
                try clear c23
                try clear c23b0
                try clear c23b1
                try clear c23b2
                try clear c26
                try clear c33
                try clear c34
                try clear c35
                try clear c36
                try clear c37
                try clear c39
                try clear c39b0
                try clear c39b1
                try clear c39b2
                try clear c40
                try clear c41
                try clear c42
                try clear c43
                try clear c44
                try clear c45
                try clear c46
                try clear c47
                try clear c48
                try clear c53
                try clear c54
                try clear c55
                try clear c57
                try clear c58
                try clear c59
                try clear c61
                try clear c128
                try clear c128b0
                try clear c128b1
                try clear c128b2
                try clear c132
                try clear c134
                try clear c139
                try clear c140
                try clear c144
                try clear c145
                try clear c146
                try clear c148
                try clear c180
                try clear c180b0
                try clear c180b1
                try clear c180b2
                try clear p2
                obtain ⟨kq, x269_175, rfl, HA, HJ175, HO_42, HB⟩ := hcut
                cases kq with
                | zero => exact absurd HA.out (by simp [laws_FnConfigurations.j6])
                | succ kj175 =>
                 have H := HA.out
                 clear HA
                 simp only [laws_FnConfigurations.j6] at H
                 by_cases c184 : x269_175 = true
                 ·
                  subst c184
                  have H1 : (some false) = some r := by rw [if_pos rfl] at H; exact H
                  clear H
                  have H := H1
                  clear H1
                  obtain rfl := Option.some.inj H
                  go_wp2
                  go_ret
                  exact ⟨by first | rfl | (simp [errW_none, errW_some] <;> rfl) | (simp [*, errW_none, errW_some] <;> rfl), by repeat (first | (with_reducible first | exact HB.out | apply below_alloc | apply pw_below_drewN | apply below_drew1) | exact HB.out)⟩
                 ·
                  replace c184 := Bool.eq_false_iff.mpr c184
                  subst c184
                  have H1 : (if t892 = true then ((impl_IsConfig.f kj175 t891).bind fun bt900 => (if bt900.2 = true then (some bt900.1) else (some false))) else (some true)) = some r := by rw [if_neg (show ¬ (false = true) by decide)] at H; exact H
                  clear H
                  have H := H1
                  clear H1
                  by_cases c185 : t892 = true
                  ·
                   subst c185
                   have H1 : ((impl_IsConfig.f kj175 t891).bind fun bt900 => (if bt900.2 = true then (some bt900.1) else (some false))) = some r := by rw [if_pos rfl] at H; exact H
                   clear H
                   have H := H1
                   clear H1
                   replace H := Option.bind_eq_some_iff.mp H
                   obtain ⟨⟨t900, t901⟩, A1860, H⟩ := H
                   replace H : (if t901 = true then (some t900) else (some false)) = some r := H
                   have A186 := Aside0.mk A1860
                   clear A1860
                   by_cases c187 : t901 = true
                   ·
                    subst c187
                    have H1 : (some t900) = some r := by rw [if_pos rfl] at H; exact H
                    clear H
                    have H := H1
                    clear H1
                    obtain rfl := Option.some.inj H
                    obtain ⟨Ao188, co188, eo188⟩ := Kd.R_slice HO_42.out
                    subst eo188
                    go_wp2_with (first | ((with_reducible refine gate_callee (f := 36) rfl ?_); refine goesL_ (some 273) rfl rfl Try.func36 (by kernel_rfl) rfl #[.slice Ao188 t891.length co188] rfl (by (try simp only [List.map_toArray, List.map_cons, List.map_nil]); first | done | rfl | (simp only [List.length_drop, List.length_take]; rfl)) ?_; (with_reducible refine (impl_IsConfig.calls kj175 _ _ t891 t900 true _ ?side1 ?side2 A186.out).mono ?_); (case side1 => repeat (first | exact (Kd.R_reads' HO_42.out).2.2 | (with_reducible refine Kd.C_alloc ?_ _) | (with_reducible refine Kd.C_drewN ?_ _) | (with_reducible refine Kd.C_drew ?_))); (case side2 => exact (Kd.R_reads' HO_42.out).2.1); rintro e w189 ⟨rfl, hb⟩; refine ⟨_, rfl, ?_⟩; have n0_ := Aside0.mk (Kd.R_below (by (with_reducible repeat (first | apply Kd.R_alloc | apply Kd.R_drewN | apply Kd.R_drew)); exact HO_42.out) hb); have n1_ := Aside0.mk (below_step (by repeat (first | (with_reducible first | exact HB.out | apply below_alloc | apply pw_below_drewN | apply below_drew1) | exact HB.out)) hb); clear HO_42; clear HB; have HO_42 := n0_; have HB := n1_; clear n0_ n1_; (try clear hb); (try clear hb2); (try clear hk); (try clear hi)))
                    go_ret
                    exact ⟨by first | rfl | (simp [errW_none, errW_some] <;> rfl) | (simp [*, errW_none, errW_some] <;> rfl), by repeat (first | (with_reducible first | exact HB.out | apply below_alloc | apply pw_below_drewN | apply below_drew1) | exact HB.out)⟩
                   ·
                    replace c187 := Bool.eq_false_iff.mpr c187
                    subst c187
                    have H1 : (some false) = some r := by rw [if_neg (show ¬ (false = true) by decide)] at H; exact H
                    clear H
                    have H := H1
                    clear H1
                    obtain rfl := Option.some.inj H
                    obtain ⟨Ao190, co190, eo190⟩ := Kd.R_slice HO_42.out
                    subst eo190
                    go_wp2_with (first | ((with_reducible refine gate_callee (f := 36) rfl ?_); refine goesL_ (some 273) rfl rfl Try.func36 (by kernel_rfl) rfl #[.slice Ao190 t891.length co190] rfl (by (try simp only [List.map_toArray, List.map_cons, List.map_nil]); first | done | rfl | (simp only [List.length_drop, List.length_take]; rfl)) ?_; (with_reducible refine (impl_IsConfig.calls kj175 _ _ t891 t900 false _ ?side1 ?side2 A186.out).mono ?_); (case side1 => repeat (first | exact (Kd.R_reads' HO_42.out).2.2 | (with_reducible refine Kd.C_alloc ?_ _) | (with_reducible refine Kd.C_drewN ?_ _) | (with_reducible refine Kd.C_drew ?_))); (case side2 => exact (Kd.R_reads' HO_42.out).2.1); rintro e w191 ⟨rfl, hb⟩; refine ⟨_, rfl, ?_⟩; have n0_ := Aside0.mk (Kd.R_below (by (with_reducible repeat (first | apply Kd.R_alloc | apply Kd.R_drewN | apply Kd.R_drew)); exact HO_42.out) hb); have n1_ := Aside0.mk (below_step (by repeat (first | (with_reducible first | exact HB.out | apply below_alloc | apply pw_below_drewN | apply below_drew1) | exact HB.out)) hb); clear HO_42; clear HB; have HO_42 := n0_; have HB := n1_; clear n0_ n1_; (try clear hb); (try clear hb2); (try clear hk); (try clear hi)))
                    go_ret
                    exact ⟨by first | rfl | (simp [errW_none, errW_some] <;> rfl) | (simp [*, errW_none, errW_some] <;> rfl), by repeat (first | (with_reducible first | exact HB.out | apply below_alloc | apply pw_below_drewN | apply below_drew1) | exact HB.out)⟩
                  ·
                   replace c185 := Bool.eq_false_iff.mpr c185
                   subst c185
                   have H1 : (some true) = some r := by rw [if_neg (show ¬ (false = true) by decide)] at H; exact H
                   clear H
                   have H := H1
                   clear H1
                   obtain rfl := Option.some.inj H
                   go_wp2
                   go_ret
                   exact ⟨by first | rfl | (simp [errW_none, errW_some] <;> rfl) | (simp [*, errW_none, errW_some] <;> rfl), by repeat (first | (with_reducible first | exact HB.out | apply below_alloc | apply pw_below_drewN | apply below_drew1) | exact HB.out)⟩

/-- THE ONE PURE STATEMENT of laws_FnConfigurations: yours. -/
def laws_FnConfigurations.Pure : Prop := ∀ (l0 : List Int) (l1 : List Int), l0.length ≤ maxLen → l0.length * 1 ≤ 140737488351232 → (∀ x ∈ l0, (Lit.int .u8 x).wf = true) → l1.length ≤ maxLen → l1.length * 1 ≤ 140737488351232 → (∀ x ∈ l1, (Lit.int .u8 x).wf = true) → ∃ k, laws_FnConfigurations.f k l0 l1 = some true
theorem laws_FnConfigurations.walk (P : laws_FnConfigurations.Pure) (a0 : Option Addr) (len0 cap0 : Nat) (z0 : List Int) (a1 : Option Addr) (len1 cap1 : Nat) (z1 : List Int) (w : World) (w0 : (a0 = none ∧ len0 = 0 ∧ cap0 = 0 ∧ z0 = []) ∨ ∃ x, a0 = some x ∧ len0 ≤ cap0 ∧ cap0 ≤ maxLen ∧ z0.length = cap0 ∧ (∀ i, i < z0.length → w.cell? (x.add i) = some (.int .u8 (z0.getD i 0))) ∧ ∀ n ∈ z0, (Lit.int .u8 n).wf = true) (y0 : len0 * 1 ≤ 140737488351232) (w1 : (a1 = none ∧ len1 = 0 ∧ cap1 = 0 ∧ z1 = []) ∨ ∃ x, a1 = some x ∧ len1 ≤ cap1 ∧ cap1 ≤ maxLen ∧ z1.length = cap1 ∧ (∀ i, i < z1.length → w.cell? (x.add i) = some (.int .u8 (z1.getD i 0))) ∧ ∀ n ∈ z1, (Lit.int .u8 n).wf = true) (y1 : len1 * 1 ≤ 140737488351232) :
  Calls Try.prog 5 #[.slice a0 len0 cap0, .slice a1 len1 cap1] w fun e w' => e = .returned (.bool true) ∧ Below w.heap.size w w' := by
 obtain ⟨l0, rfl, hr0, hm0, hw0, hc0⟩ := ReadsInt.ofRowC w0
 obtain ⟨l1, rfl, hr1, hm1, hw1, hc1⟩ := ReadsInt.ofRowC w1
 obtain ⟨k, h⟩ := P l0 l1 hm0 y0 hw0 hm1 y1 hw1
 refine (laws_FnConfigurations.calls k _ _ l0 _ _ l1 true w (Kd.C_of_reads (d := (0 : Int)) (h1 := fun _ => rfl) hr0) hc0 (Kd.C_of_reads (d := (0 : Int)) (h1 := fun _ => rfl) hr1) hc1 h).mono ?_
 rintro e w' ⟨rfl, hd⟩
 exact ⟨rfl, hd⟩

end Go.Proofs.Ytmnjijobpejpgaa.P
