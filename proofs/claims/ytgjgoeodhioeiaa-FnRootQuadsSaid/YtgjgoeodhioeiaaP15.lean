/- Written by a program of this session: for Go functions that a statement reaches, Lean functions with the same answers and the proofs that the calls come to them; conditions: none but the arguments' kinds. -/
import Derived.Test.YtgjgoeodhioeiaaP0
import Derived.Test.YtgjgoeodhioeiaaP1
import Derived.Test.YtgjgoeodhioeiaaP8
import Derived.Test.YtgjgoeodhioeiaaP10
import Derived.Test.YtgjgoeodhioeiaaP11
import Derived.Test.YtgjgoeodhioeiaaP13
import Derived.Test.YtgjgoeodhioeiaaP14
namespace Go.Proofs.Ytgjgoeodhioeiaa.P
open Go.RowKit Go.Proofs.YtgjgoeodhioeiaaW.PrintWords Go.Proofs.YtgjgoeodhioeiaaW.PrintLast Go.Proofs.YtgjgoeodhioeiaaW.PrintMore
attribute [local go_sem] max2_int min2_int max_two min_two max_three min_three max_four min_four   -- for this text's walks alone
set_option linter.unusedVariables false
set_option linter.unusedSimpArgs false

/-! ### laws_FnRootQuads: function 3 -/
mutual
def laws_FnRootQuads.j0 : Nat → List Int → Int → List (List Int) → Bool → Bool → Option (Bool)
  | 0, _, _, _, _, _ => none
  | k + 1, x1, x5, x6, x7, x62 => if x62 = true then (some false) else (if x7 = true then (laws_FnRootQuads.j1 k x1 x5 x6 x7 ((x6.length : Int) == 0)) else (laws_FnRootQuads.j1 k x1 x5 x6 x7 false))
def laws_FnRootQuads.j1 : Nat → List Int → Int → List (List Int) → Bool → Bool → Option (Bool)
  | 0, _, _, _, _, _ => none
  | k + 1, x1, x5, x6, x7, x68 => if x68 = true then (some false) else (laws_FnRootQuads.l0 k x1 x5 x6 x7 x6 (x6.length : Int) 0)
def laws_FnRootQuads.l0 : Nat → List Int → Int → List (List Int) → Bool → List (List Int) → Int → Int → Option (Bool)
  | 0, _, _, _, _, _, _, _ => none
  | k + 1, x1, x5, x6, x7, x69, x70, x71 => if x71 < x70 then (if 0 ≤ x71 then (if x71 < (x69.length : Int) then ((impl_IsRoot.f k (rd_L2 x69 x71)).bind fun bt281 => ((impl_RootQuad.f k (rd_L2 x69 x71)).bind fun bt283 => ((impl_ScaleOf.f k (rd_L2 x69 x71)).bind fun bt287 => (if bt281.2 = true then (if bt281.1 = true then (if bt283.2 = true then ((laws_dSame.f k bt283.1 (rd_L2 x69 x71)).bind fun t289 => (if t289 = true then (if bt287.2 = true then (if bt287.1 = 1 then (if 0 < ((rd_L2 x69 x71).length : Int) then (if (rd (rd_L2 x69 x71) 0) = (wrap64 (-x5)) then (if x71 > 0 then (if 0 ≤ (wrap64 (x71 - 1)) then (if (wrap64 (x71 - 1)) < (x6.length : Int) then ((laws_dLess.f k (rd_L2 x6 (wrap64 (x71 - 1))) (rd_L2 x69 x71)).bind fun t292 => (if t292 = true then (laws_FnRootQuads.l0 k x1 x5 x6 x7 x69 x70 (wrap64 (x71 + 1))) else (some false))) else (none)) else (none)) else (laws_FnRootQuads.l0 k x1 x5 x6 x7 x69 x70 (wrap64 (x71 + 1)))) else (some false)) else (none)) else (some false)) else (some false)) else (some false))) else (some false)) else (some false)) else (some false))))) else (none)) else (none)) else (if x7 = true then (laws_FnRootQuads.j3 k x1 x5 x6 (decide (x5 ≤ 6))) else (laws_FnRootQuads.j3 k x1 x5 x6 false))
def laws_FnRootQuads.j3 : Nat → List Int → Int → List (List Int) → Bool → Option (Bool)
  | 0, _, _, _, _ => none
  | k + 1, x1, x5, x6, x142 => if x142 = true then (laws_FnRootQuads.l1 k x1 x5 x6 0 1) else (laws_FnRootQuads.j8 k x1)
def laws_FnRootQuads.j8 : Nat → List Int → Option (Bool)
  | 0, _ => none
  | k + 1, x1 => (spec_DrawAllRootsUpTo.f x1).bind fun t302 => ((impl_AllRootsUpTo.f k t302).bind fun bt303 => ((spec_AllRootsUpTo.f k t302).bind fun bt307 => (if (bt303.2 != bt307.2) = true then (laws_FnRootQuads.j9 k t302 bt303.1 bt303.2 true) else ((laws_dLists.f k bt303.1 bt307.1).bind fun t311 => (laws_FnRootQuads.j9 k t302 bt303.1 bt303.2 (!t311))))))
def laws_FnRootQuads.j9 : Nat → Int → List (List Int) → Bool → Bool → Option (Bool)
  | 0, _, _, _, _ => none
  | k + 1, x30, x31, x32, x222 => if x222 = true then (some false) else (if x32 = true then (laws_FnRootQuads.l5 k x30 x31 0 1) else (some true))
def laws_FnRootQuads.l5 : Nat → Int → List (List Int) → Int → Int → Option (Bool)
  | 0, _, _, _, _ => none
  | k + 1, x30, x31, x35, x36 => if x36 ≤ x30 then ((impl_RootsWith.f k x36).bind fun bt312 => (if bt312.2 = true then (laws_FnRootQuads.l5 k x30 x31 (wrap64 (x35 + (bt312.1.length : Int))) (wrap64 (x36 + 1))) else (some false))) else (some (x35 == (x31.length : Int)))
def laws_FnRootQuads.l1 : Nat → List Int → Int → List (List Int) → Int → Int → Option (Bool)
  | 0, _, _, _, _, _ => none
  | k + 1, x1, x5, x6, x18, x19 => if x19 ≤ 60 then (laws_FnRootQuads.l2 k x1 x5 x6 x18 x19 x19) else (laws_FnRootQuads.l4 k x1 x18 0 x6 (x6.length : Int) 0)
def laws_FnRootQuads.l2 : Nat → List Int → Int → List (List Int) → Int → Int → Int → Option (Bool)
  | 0, _, _, _, _, _, _ => none
  | k + 1, x1, x5, x6, x18, x19, x20 => if x20 ≤ 60 then (laws_FnRootQuads.l3 k x1 x5 x6 x18 x19 x20 x20) else (laws_FnRootQuads.l1 k x1 x5 x6 x18 (wrap64 (x19 + 1)))
def laws_FnRootQuads.l3 : Nat → List Int → Int → List (List Int) → Int → Int → Int → Int → Option (Bool)
  | 0, _, _, _, _, _, _, _ => none
  | k + 1, x1, x5, x6, x18, x19, x20, x21 => if x21 ≤ 60 then ((some (([wrap64 (-x5), x19, x20, x21] : List Int) : List Int)).bind fun y293 => ((impl_IsRoot.f k y293).bind fun bt296 => ((impl_ScaleOf.f k y293).bind fun bt298 => (if bt296.2 = true then (if bt298.2 = true then (if bt296.1 = true then (if bt298.1 = 1 then (laws_FnRootQuads.l3 k x1 x5 x6 (wrap64 (x18 + 1)) x19 x20 (wrap64 (x21 + 1))) else (laws_FnRootQuads.l3 k x1 x5 x6 x18 x19 x20 (wrap64 (x21 + 1)))) else (laws_FnRootQuads.l3 k x1 x5 x6 x18 x19 x20 (wrap64 (x21 + 1)))) else (laws_FnRootQuads.l3 k x1 x5 x6 x18 x19 x20 (wrap64 (x21 + 1)))) else (laws_FnRootQuads.l3 k x1 x5 x6 x18 x19 x20 (wrap64 (x21 + 1))))))) else (laws_FnRootQuads.l2 k x1 x5 x6 x18 x19 (wrap64 (x20 + 1)))
def laws_FnRootQuads.l4 : Nat → List Int → Int → Int → List (List Int) → Int → Int → Option (Bool)
  | 0, _, _, _, _, _, _ => none
  | k + 1, x1, x18, x27, x186, x187, x188 => if x188 < x187 then (if 0 ≤ x188 then (if x188 < (x186.length : Int) then (if 3 < ((rd_L2 x186 x188).length : Int) then (if (rd (rd_L2 x186 x188) 3) ≤ 60 then (laws_FnRootQuads.l4 k x1 x18 (wrap64 (x27 + 1)) x186 x187 (wrap64 (x188 + 1))) else (laws_FnRootQuads.l4 k x1 x18 x27 x186 x187 (wrap64 (x188 + 1)))) else (none)) else (none)) else (none)) else (if x18 = x27 then (laws_FnRootQuads.j8 k x1) else (some false))
end
def laws_FnRootQuads.f (k : Nat) (l0 : List Int) (l1 : List Int) : Option (Bool) := (laws_big.f l0 l1).bind fun t269 => (if t269 = true then (some true) else ((spec_DrawRootsWith.f l0).bind fun t270 => ((impl_RootsWith.f k t270).bind fun bt271 => ((spec_RootsWith.f k t270).bind fun bt275 => (if (bt271.2 != bt275.2) = true then (laws_FnRootQuads.j0 k l1 t270 bt271.1 bt271.2 true) else ((laws_dLists.f k bt271.1 bt275.1).bind fun t279 => (laws_FnRootQuads.j0 k l1 t270 bt271.1 bt271.2 (!t279))))))))
theorem laws_FnRootQuads.mono_l : ∀ k, (∀ y0 y1 y2 y3 y4, LeO (laws_FnRootQuads.j0 k y0 y1 y2 y3 y4) (laws_FnRootQuads.j0 (k + 1) y0 y1 y2 y3 y4)) ∧ (∀ y0 y1 y2 y3 y4, LeO (laws_FnRootQuads.j1 k y0 y1 y2 y3 y4) (laws_FnRootQuads.j1 (k + 1) y0 y1 y2 y3 y4)) ∧ (∀ y0 y1 y2 y3 y4 y5 y6, LeO (laws_FnRootQuads.l0 k y0 y1 y2 y3 y4 y5 y6) (laws_FnRootQuads.l0 (k + 1) y0 y1 y2 y3 y4 y5 y6)) ∧ (∀ y0 y1 y2 y3, LeO (laws_FnRootQuads.j3 k y0 y1 y2 y3) (laws_FnRootQuads.j3 (k + 1) y0 y1 y2 y3)) ∧ (∀ y0, LeO (laws_FnRootQuads.j8 k y0) (laws_FnRootQuads.j8 (k + 1) y0)) ∧ (∀ y0 y1 y2 y3, LeO (laws_FnRootQuads.j9 k y0 y1 y2 y3) (laws_FnRootQuads.j9 (k + 1) y0 y1 y2 y3)) ∧ (∀ y0 y1 y2 y3, LeO (laws_FnRootQuads.l5 k y0 y1 y2 y3) (laws_FnRootQuads.l5 (k + 1) y0 y1 y2 y3)) ∧ (∀ y0 y1 y2 y3 y4, LeO (laws_FnRootQuads.l1 k y0 y1 y2 y3 y4) (laws_FnRootQuads.l1 (k + 1) y0 y1 y2 y3 y4)) ∧ (∀ y0 y1 y2 y3 y4 y5, LeO (laws_FnRootQuads.l2 k y0 y1 y2 y3 y4 y5) (laws_FnRootQuads.l2 (k + 1) y0 y1 y2 y3 y4 y5)) ∧ (∀ y0 y1 y2 y3 y4 y5 y6, LeO (laws_FnRootQuads.l3 k y0 y1 y2 y3 y4 y5 y6) (laws_FnRootQuads.l3 (k + 1) y0 y1 y2 y3 y4 y5 y6)) ∧ (∀ y0 y1 y2 y3 y4 y5, LeO (laws_FnRootQuads.l4 k y0 y1 y2 y3 y4 y5) (laws_FnRootQuads.l4 (k + 1) y0 y1 y2 y3 y4 y5))
  | 0 => ⟨fun _ _ _ _ _ r h => by simp [laws_FnRootQuads.j0] at h, fun _ _ _ _ _ r h => by simp [laws_FnRootQuads.j1] at h, fun _ _ _ _ _ _ _ r h => by simp [laws_FnRootQuads.l0] at h, fun _ _ _ _ r h => by simp [laws_FnRootQuads.j3] at h, fun _ r h => by simp [laws_FnRootQuads.j8] at h, fun _ _ _ _ r h => by simp [laws_FnRootQuads.j9] at h, fun _ _ _ _ r h => by simp [laws_FnRootQuads.l5] at h, fun _ _ _ _ _ r h => by simp [laws_FnRootQuads.l1] at h, fun _ _ _ _ _ _ r h => by simp [laws_FnRootQuads.l2] at h, fun _ _ _ _ _ _ _ r h => by simp [laws_FnRootQuads.l3] at h, fun _ _ _ _ _ _ r h => by simp [laws_FnRootQuads.l4] at h⟩
  | k + 1 => by
    obtain ⟨ih0, ih1, ih2, ih3, ih4, ih5, ih6, ih7, ih8, ih9, ih10⟩ := laws_FnRootQuads.mono_l k
    refine ⟨?_, ?_, ?_, ?_, ?_, ?_, ?_, ?_, ?_, ?_, ?_⟩
    · intro y0 y1 y2 y3 y4
      unfold laws_FnRootQuads.j0
      repeat' first
      | (with_reducible exact ih0 _ _ _ _ _)
      | (with_reducible exact ih1 _ _ _ _ _)
      | (with_reducible exact ih2 _ _ _ _ _ _ _)
      | (with_reducible exact ih3 _ _ _ _)
      | (with_reducible exact ih4 _)
      | (with_reducible exact ih5 _ _ _ _)
      | (with_reducible exact ih6 _ _ _ _)
      | (with_reducible exact ih7 _ _ _ _ _)
      | (with_reducible exact ih8 _ _ _ _ _ _)
      | (with_reducible exact ih9 _ _ _ _ _ _ _)
      | (with_reducible exact ih10 _ _ _ _ _ _)
      | (with_reducible exact impl_AllRootsUpTo.mono _ _)
      | (with_reducible exact impl_IsRoot.mono _ _)
      | (with_reducible exact impl_RootQuad.mono _ _)
      | (with_reducible exact impl_RootsWith.mono _ _)
      | (with_reducible exact impl_ScaleOf.mono _ _)
      | (with_reducible exact laws_dLess.mono _ _ _)
      | (with_reducible exact laws_dLists.mono _ _ _)
      | (with_reducible exact laws_dSame.mono _ _ _)
      | (with_reducible exact spec_AllRootsUpTo.mono _ _)
      | (with_reducible exact spec_RootsWith.mono _ _)
      | (with_reducible exact LeO.refl _)
      | (with_reducible exact LeO.none _)
      | (with_reducible refine LeO.ite ?_ ?_)
      | (with_reducible refine LeO.bind ?_ (fun _ => ?_))
      | exact ih0 _ _ _ _ _
      | exact ih1 _ _ _ _ _
      | exact ih2 _ _ _ _ _ _ _
      | exact ih3 _ _ _ _
      | exact ih4 _
      | exact ih5 _ _ _ _
      | exact ih6 _ _ _ _
      | exact ih7 _ _ _ _ _
      | exact ih8 _ _ _ _ _ _
      | exact ih9 _ _ _ _ _ _ _
      | exact ih10 _ _ _ _ _ _
      | exact impl_AllRootsUpTo.mono _ _
      | exact impl_IsRoot.mono _ _
      | exact impl_RootQuad.mono _ _
      | exact impl_RootsWith.mono _ _
      | exact impl_ScaleOf.mono _ _
      | exact laws_dLess.mono _ _ _
      | exact laws_dLists.mono _ _ _
      | exact laws_dSame.mono _ _ _
      | exact spec_AllRootsUpTo.mono _ _
      | exact spec_RootsWith.mono _ _
      | exact LeO.none _
      | refine LeO.ite ?_ ?_
      | refine LeO.bind ?_ (fun _ => ?_)
    · intro y0 y1 y2 y3 y4
      unfold laws_FnRootQuads.j1
      repeat' first
      | (with_reducible exact ih0 _ _ _ _ _)
      | (with_reducible exact ih1 _ _ _ _ _)
      | (with_reducible exact ih2 _ _ _ _ _ _ _)
      | (with_reducible exact ih3 _ _ _ _)
      | (with_reducible exact ih4 _)
      | (with_reducible exact ih5 _ _ _ _)
      | (with_reducible exact ih6 _ _ _ _)
      | (with_reducible exact ih7 _ _ _ _ _)
      | (with_reducible exact ih8 _ _ _ _ _ _)
      | (with_reducible exact ih9 _ _ _ _ _ _ _)
      | (with_reducible exact ih10 _ _ _ _ _ _)
      | (with_reducible exact impl_AllRootsUpTo.mono _ _)
      | (with_reducible exact impl_IsRoot.mono _ _)
      | (with_reducible exact impl_RootQuad.mono _ _)
      | (with_reducible exact impl_RootsWith.mono _ _)
      | (with_reducible exact impl_ScaleOf.mono _ _)
      | (with_reducible exact laws_dLess.mono _ _ _)
      | (with_reducible exact laws_dLists.mono _ _ _)
      | (with_reducible exact laws_dSame.mono _ _ _)
      | (with_reducible exact spec_AllRootsUpTo.mono _ _)
      | (with_reducible exact spec_RootsWith.mono _ _)
      | (with_reducible exact LeO.refl _)
      | (with_reducible exact LeO.none _)
      | (with_reducible refine LeO.ite ?_ ?_)
      | (with_reducible refine LeO.bind ?_ (fun _ => ?_))
      | exact ih0 _ _ _ _ _
      | exact ih1 _ _ _ _ _
      | exact ih2 _ _ _ _ _ _ _
      | exact ih3 _ _ _ _
      | exact ih4 _
      | exact ih5 _ _ _ _
      | exact ih6 _ _ _ _
      | exact ih7 _ _ _ _ _
      | exact ih8 _ _ _ _ _ _
      | exact ih9 _ _ _ _ _ _ _
      | exact ih10 _ _ _ _ _ _
      | exact impl_AllRootsUpTo.mono _ _
      | exact impl_IsRoot.mono _ _
      | exact impl_RootQuad.mono _ _
      | exact impl_RootsWith.mono _ _
      | exact impl_ScaleOf.mono _ _
      | exact laws_dLess.mono _ _ _
      | exact laws_dLists.mono _ _ _
      | exact laws_dSame.mono _ _ _
      | exact spec_AllRootsUpTo.mono _ _
      | exact spec_RootsWith.mono _ _
      | exact LeO.none _
      | refine LeO.ite ?_ ?_
      | refine LeO.bind ?_ (fun _ => ?_)
    · intro y0 y1 y2 y3 y4 y5 y6
      unfold laws_FnRootQuads.l0
      repeat' first
      | (with_reducible exact ih0 _ _ _ _ _)
      | (with_reducible exact ih1 _ _ _ _ _)
      | (with_reducible exact ih2 _ _ _ _ _ _ _)
      | (with_reducible exact ih3 _ _ _ _)
      | (with_reducible exact ih4 _)
      | (with_reducible exact ih5 _ _ _ _)
      | (with_reducible exact ih6 _ _ _ _)
      | (with_reducible exact ih7 _ _ _ _ _)
      | (with_reducible exact ih8 _ _ _ _ _ _)
      | (with_reducible exact ih9 _ _ _ _ _ _ _)
      | (with_reducible exact ih10 _ _ _ _ _ _)
      | (with_reducible exact impl_AllRootsUpTo.mono _ _)
      | (with_reducible exact impl_IsRoot.mono _ _)
      | (with_reducible exact impl_RootQuad.mono _ _)
      | (with_reducible exact impl_RootsWith.mono _ _)
      | (with_reducible exact impl_ScaleOf.mono _ _)
      | (with_reducible exact laws_dLess.mono _ _ _)
      | (with_reducible exact laws_dLists.mono _ _ _)
      | (with_reducible exact laws_dSame.mono _ _ _)
      | (with_reducible exact spec_AllRootsUpTo.mono _ _)
      | (with_reducible exact spec_RootsWith.mono _ _)
      | (with_reducible exact LeO.refl _)
      | (with_reducible exact LeO.none _)
      | (with_reducible refine LeO.ite ?_ ?_)
      | (with_reducible refine LeO.bind ?_ (fun _ => ?_))
      | exact ih0 _ _ _ _ _
      | exact ih1 _ _ _ _ _
      | exact ih2 _ _ _ _ _ _ _
      | exact ih3 _ _ _ _
      | exact ih4 _
      | exact ih5 _ _ _ _
      | exact ih6 _ _ _ _
      | exact ih7 _ _ _ _ _
      | exact ih8 _ _ _ _ _ _
      | exact ih9 _ _ _ _ _ _ _
      | exact ih10 _ _ _ _ _ _
      | exact impl_AllRootsUpTo.mono _ _
      | exact impl_IsRoot.mono _ _
      | exact impl_RootQuad.mono _ _
      | exact impl_RootsWith.mono _ _
      | exact impl_ScaleOf.mono _ _
      | exact laws_dLess.mono _ _ _
      | exact laws_dLists.mono _ _ _
      | exact laws_dSame.mono _ _ _
      | exact spec_AllRootsUpTo.mono _ _
      | exact spec_RootsWith.mono _ _
      | exact LeO.none _
      | refine LeO.ite ?_ ?_
      | refine LeO.bind ?_ (fun _ => ?_)
    · intro y0 y1 y2 y3
      unfold laws_FnRootQuads.j3
      repeat' first
      | (with_reducible exact ih0 _ _ _ _ _)
      | (with_reducible exact ih1 _ _ _ _ _)
      | (with_reducible exact ih2 _ _ _ _ _ _ _)
      | (with_reducible exact ih3 _ _ _ _)
      | (with_reducible exact ih4 _)
      | (with_reducible exact ih5 _ _ _ _)
      | (with_reducible exact ih6 _ _ _ _)
      | (with_reducible exact ih7 _ _ _ _ _)
      | (with_reducible exact ih8 _ _ _ _ _ _)
      | (with_reducible exact ih9 _ _ _ _ _ _ _)
      | (with_reducible exact ih10 _ _ _ _ _ _)
      | (with_reducible exact impl_AllRootsUpTo.mono _ _)
      | (with_reducible exact impl_IsRoot.mono _ _)
      | (with_reducible exact impl_RootQuad.mono _ _)
      | (with_reducible exact impl_RootsWith.mono _ _)
      | (with_reducible exact impl_ScaleOf.mono _ _)
      | (with_reducible exact laws_dLess.mono _ _ _)
      | (with_reducible exact laws_dLists.mono _ _ _)
      | (with_reducible exact laws_dSame.mono _ _ _)
      | (with_reducible exact spec_AllRootsUpTo.mono _ _)
      | (with_reducible exact spec_RootsWith.mono _ _)
      | (with_reducible exact LeO.refl _)
      | (with_reducible exact LeO.none _)
      | (with_reducible refine LeO.ite ?_ ?_)
      | (with_reducible refine LeO.bind ?_ (fun _ => ?_))
      | exact ih0 _ _ _ _ _
      | exact ih1 _ _ _ _ _
      | exact ih2 _ _ _ _ _ _ _
      | exact ih3 _ _ _ _
      | exact ih4 _
      | exact ih5 _ _ _ _
      | exact ih6 _ _ _ _
      | exact ih7 _ _ _ _ _
      | exact ih8 _ _ _ _ _ _
      | exact ih9 _ _ _ _ _ _ _
      | exact ih10 _ _ _ _ _ _
      | exact impl_AllRootsUpTo.mono _ _
      | exact impl_IsRoot.mono _ _
      | exact impl_RootQuad.mono _ _
      | exact impl_RootsWith.mono _ _
      | exact impl_ScaleOf.mono _ _
      | exact laws_dLess.mono _ _ _
      | exact laws_dLists.mono _ _ _
      | exact laws_dSame.mono _ _ _
      | exact spec_AllRootsUpTo.mono _ _
      | exact spec_RootsWith.mono _ _
      | exact LeO.none _
      | refine LeO.ite ?_ ?_
      | refine LeO.bind ?_ (fun _ => ?_)
    · intro y0
      unfold laws_FnRootQuads.j8
      repeat' first
      | (with_reducible exact ih0 _ _ _ _ _)
      | (with_reducible exact ih1 _ _ _ _ _)
      | (with_reducible exact ih2 _ _ _ _ _ _ _)
      | (with_reducible exact ih3 _ _ _ _)
      | (with_reducible exact ih4 _)
      | (with_reducible exact ih5 _ _ _ _)
      | (with_reducible exact ih6 _ _ _ _)
      | (with_reducible exact ih7 _ _ _ _ _)
      | (with_reducible exact ih8 _ _ _ _ _ _)
      | (with_reducible exact ih9 _ _ _ _ _ _ _)
      | (with_reducible exact ih10 _ _ _ _ _ _)
      | (with_reducible exact impl_AllRootsUpTo.mono _ _)
      | (with_reducible exact impl_IsRoot.mono _ _)
      | (with_reducible exact impl_RootQuad.mono _ _)
      | (with_reducible exact impl_RootsWith.mono _ _)
      | (with_reducible exact impl_ScaleOf.mono _ _)
      | (with_reducible exact laws_dLess.mono _ _ _)
      | (with_reducible exact laws_dLists.mono _ _ _)
      | (with_reducible exact laws_dSame.mono _ _ _)
      | (with_reducible exact spec_AllRootsUpTo.mono _ _)
      | (with_reducible exact spec_RootsWith.mono _ _)
      | (with_reducible exact LeO.refl _)
      | (with_reducible exact LeO.none _)
      | (with_reducible refine LeO.ite ?_ ?_)
      | (with_reducible refine LeO.bind ?_ (fun _ => ?_))
      | exact ih0 _ _ _ _ _
      | exact ih1 _ _ _ _ _
      | exact ih2 _ _ _ _ _ _ _
      | exact ih3 _ _ _ _
      | exact ih4 _
      | exact ih5 _ _ _ _
      | exact ih6 _ _ _ _
      | exact ih7 _ _ _ _ _
      | exact ih8 _ _ _ _ _ _
      | exact ih9 _ _ _ _ _ _ _
      | exact ih10 _ _ _ _ _ _
      | exact impl_AllRootsUpTo.mono _ _
      | exact impl_IsRoot.mono _ _
      | exact impl_RootQuad.mono _ _
      | exact impl_RootsWith.mono _ _
      | exact impl_ScaleOf.mono _ _
      | exact laws_dLess.mono _ _ _
      | exact laws_dLists.mono _ _ _
      | exact laws_dSame.mono _ _ _
      | exact spec_AllRootsUpTo.mono _ _
      | exact spec_RootsWith.mono _ _
      | exact LeO.none _
      | refine LeO.ite ?_ ?_
      | refine LeO.bind ?_ (fun _ => ?_)
    · intro y0 y1 y2 y3
      unfold laws_FnRootQuads.j9
      repeat' first
      | (with_reducible exact ih0 _ _ _ _ _)
      | (with_reducible exact ih1 _ _ _ _ _)
      | (with_reducible exact ih2 _ _ _ _ _ _ _)
      | (with_reducible exact ih3 _ _ _ _)
      | (with_reducible exact ih4 _)
      | (with_reducible exact ih5 _ _ _ _)
      | (with_reducible exact ih6 _ _ _ _)
      | (with_reducible exact ih7 _ _ _ _ _)
      | (with_reducible exact ih8 _ _ _ _ _ _)
      | (with_reducible exact ih9 _ _ _ _ _ _ _)
      | (with_reducible exact ih10 _ _ _ _ _ _)
      | (with_reducible exact impl_AllRootsUpTo.mono _ _)
      | (with_reducible exact impl_IsRoot.mono _ _)
      | (with_reducible exact impl_RootQuad.mono _ _)
      | (with_reducible exact impl_RootsWith.mono _ _)
      | (with_reducible exact impl_ScaleOf.mono _ _)
      | (with_reducible exact laws_dLess.mono _ _ _)
      | (with_reducible exact laws_dLists.mono _ _ _)
      | (with_reducible exact laws_dSame.mono _ _ _)
      | (with_reducible exact spec_AllRootsUpTo.mono _ _)
      | (with_reducible exact spec_RootsWith.mono _ _)
      | (with_reducible exact LeO.refl _)
      | (with_reducible exact LeO.none _)
      | (with_reducible refine LeO.ite ?_ ?_)
      | (with_reducible refine LeO.bind ?_ (fun _ => ?_))
      | exact ih0 _ _ _ _ _
      | exact ih1 _ _ _ _ _
      | exact ih2 _ _ _ _ _ _ _
      | exact ih3 _ _ _ _
      | exact ih4 _
      | exact ih5 _ _ _ _
      | exact ih6 _ _ _ _
      | exact ih7 _ _ _ _ _
      | exact ih8 _ _ _ _ _ _
      | exact ih9 _ _ _ _ _ _ _
      | exact ih10 _ _ _ _ _ _
      | exact impl_AllRootsUpTo.mono _ _
      | exact impl_IsRoot.mono _ _
      | exact impl_RootQuad.mono _ _
      | exact impl_RootsWith.mono _ _
      | exact impl_ScaleOf.mono _ _
      | exact laws_dLess.mono _ _ _
      | exact laws_dLists.mono _ _ _
      | exact laws_dSame.mono _ _ _
      | exact spec_AllRootsUpTo.mono _ _
      | exact spec_RootsWith.mono _ _
      | exact LeO.none _
      | refine LeO.ite ?_ ?_
      | refine LeO.bind ?_ (fun _ => ?_)
    · intro y0 y1 y2 y3
      unfold laws_FnRootQuads.l5
      repeat' first
      | (with_reducible exact ih0 _ _ _ _ _)
      | (with_reducible exact ih1 _ _ _ _ _)
      | (with_reducible exact ih2 _ _ _ _ _ _ _)
      | (with_reducible exact ih3 _ _ _ _)
      | (with_reducible exact ih4 _)
      | (with_reducible exact ih5 _ _ _ _)
      | (with_reducible exact ih6 _ _ _ _)
      | (with_reducible exact ih7 _ _ _ _ _)
      | (with_reducible exact ih8 _ _ _ _ _ _)
      | (with_reducible exact ih9 _ _ _ _ _ _ _)
      | (with_reducible exact ih10 _ _ _ _ _ _)
      | (with_reducible exact impl_AllRootsUpTo.mono _ _)
      | (with_reducible exact impl_IsRoot.mono _ _)
      | (with_reducible exact impl_RootQuad.mono _ _)
      | (with_reducible exact impl_RootsWith.mono _ _)
      | (with_reducible exact impl_ScaleOf.mono _ _)
      | (with_reducible exact laws_dLess.mono _ _ _)
      | (with_reducible exact laws_dLists.mono _ _ _)
      | (with_reducible exact laws_dSame.mono _ _ _)
      | (with_reducible exact spec_AllRootsUpTo.mono _ _)
      | (with_reducible exact spec_RootsWith.mono _ _)
      | (with_reducible exact LeO.refl _)
      | (with_reducible exact LeO.none _)
      | (with_reducible refine LeO.ite ?_ ?_)
      | (with_reducible refine LeO.bind ?_ (fun _ => ?_))
      | exact ih0 _ _ _ _ _
      | exact ih1 _ _ _ _ _
      | exact ih2 _ _ _ _ _ _ _
      | exact ih3 _ _ _ _
      | exact ih4 _
      | exact ih5 _ _ _ _
      | exact ih6 _ _ _ _
      | exact ih7 _ _ _ _ _
      | exact ih8 _ _ _ _ _ _
      | exact ih9 _ _ _ _ _ _ _
      | exact ih10 _ _ _ _ _ _
      | exact impl_AllRootsUpTo.mono _ _
      | exact impl_IsRoot.mono _ _
      | exact impl_RootQuad.mono _ _
      | exact impl_RootsWith.mono _ _
      | exact impl_ScaleOf.mono _ _
      | exact laws_dLess.mono _ _ _
      | exact laws_dLists.mono _ _ _
      | exact laws_dSame.mono _ _ _
      | exact spec_AllRootsUpTo.mono _ _
      | exact spec_RootsWith.mono _ _
      | exact LeO.none _
      | refine LeO.ite ?_ ?_
      | refine LeO.bind ?_ (fun _ => ?_)
    · intro y0 y1 y2 y3 y4
      unfold laws_FnRootQuads.l1
      repeat' first
      | (with_reducible exact ih0 _ _ _ _ _)
      | (with_reducible exact ih1 _ _ _ _ _)
      | (with_reducible exact ih2 _ _ _ _ _ _ _)
      | (with_reducible exact ih3 _ _ _ _)
      | (with_reducible exact ih4 _)
      | (with_reducible exact ih5 _ _ _ _)
      | (with_reducible exact ih6 _ _ _ _)
      | (with_reducible exact ih7 _ _ _ _ _)
      | (with_reducible exact ih8 _ _ _ _ _ _)
      | (with_reducible exact ih9 _ _ _ _ _ _ _)
      | (with_reducible exact ih10 _ _ _ _ _ _)
      | (with_reducible exact impl_AllRootsUpTo.mono _ _)
      | (with_reducible exact impl_IsRoot.mono _ _)
      | (with_reducible exact impl_RootQuad.mono _ _)
      | (with_reducible exact impl_RootsWith.mono _ _)
      | (with_reducible exact impl_ScaleOf.mono _ _)
      | (with_reducible exact laws_dLess.mono _ _ _)
      | (with_reducible exact laws_dLists.mono _ _ _)
      | (with_reducible exact laws_dSame.mono _ _ _)
      | (with_reducible exact spec_AllRootsUpTo.mono _ _)
      | (with_reducible exact spec_RootsWith.mono _ _)
      | (with_reducible exact LeO.refl _)
      | (with_reducible exact LeO.none _)
      | (with_reducible refine LeO.ite ?_ ?_)
      | (with_reducible refine LeO.bind ?_ (fun _ => ?_))
      | exact ih0 _ _ _ _ _
      | exact ih1 _ _ _ _ _
      | exact ih2 _ _ _ _ _ _ _
      | exact ih3 _ _ _ _
      | exact ih4 _
      | exact ih5 _ _ _ _
      | exact ih6 _ _ _ _
      | exact ih7 _ _ _ _ _
      | exact ih8 _ _ _ _ _ _
      | exact ih9 _ _ _ _ _ _ _
      | exact ih10 _ _ _ _ _ _
      | exact impl_AllRootsUpTo.mono _ _
      | exact impl_IsRoot.mono _ _
      | exact impl_RootQuad.mono _ _
      | exact impl_RootsWith.mono _ _
      | exact impl_ScaleOf.mono _ _
      | exact laws_dLess.mono _ _ _
      | exact laws_dLists.mono _ _ _
      | exact laws_dSame.mono _ _ _
      | exact spec_AllRootsUpTo.mono _ _
      | exact spec_RootsWith.mono _ _
      | exact LeO.none _
      | refine LeO.ite ?_ ?_
      | refine LeO.bind ?_ (fun _ => ?_)
    · intro y0 y1 y2 y3 y4 y5
      unfold laws_FnRootQuads.l2
      repeat' first
      | (with_reducible exact ih0 _ _ _ _ _)
      | (with_reducible exact ih1 _ _ _ _ _)
      | (with_reducible exact ih2 _ _ _ _ _ _ _)
      | (with_reducible exact ih3 _ _ _ _)
      | (with_reducible exact ih4 _)
      | (with_reducible exact ih5 _ _ _ _)
      | (with_reducible exact ih6 _ _ _ _)
      | (with_reducible exact ih7 _ _ _ _ _)
      | (with_reducible exact ih8 _ _ _ _ _ _)
      | (with_reducible exact ih9 _ _ _ _ _ _ _)
      | (with_reducible exact ih10 _ _ _ _ _ _)
      | (with_reducible exact impl_AllRootsUpTo.mono _ _)
      | (with_reducible exact impl_IsRoot.mono _ _)
      | (with_reducible exact impl_RootQuad.mono _ _)
      | (with_reducible exact impl_RootsWith.mono _ _)
      | (with_reducible exact impl_ScaleOf.mono _ _)
      | (with_reducible exact laws_dLess.mono _ _ _)
      | (with_reducible exact laws_dLists.mono _ _ _)
      | (with_reducible exact laws_dSame.mono _ _ _)
      | (with_reducible exact spec_AllRootsUpTo.mono _ _)
      | (with_reducible exact spec_RootsWith.mono _ _)
      | (with_reducible exact LeO.refl _)
      | (with_reducible exact LeO.none _)
      | (with_reducible refine LeO.ite ?_ ?_)
      | (with_reducible refine LeO.bind ?_ (fun _ => ?_))
      | exact ih0 _ _ _ _ _
      | exact ih1 _ _ _ _ _
      | exact ih2 _ _ _ _ _ _ _
      | exact ih3 _ _ _ _
      | exact ih4 _
      | exact ih5 _ _ _ _
      | exact ih6 _ _ _ _
      | exact ih7 _ _ _ _ _
      | exact ih8 _ _ _ _ _ _
      | exact ih9 _ _ _ _ _ _ _
      | exact ih10 _ _ _ _ _ _
      | exact impl_AllRootsUpTo.mono _ _
      | exact impl_IsRoot.mono _ _
      | exact impl_RootQuad.mono _ _
      | exact impl_RootsWith.mono _ _
      | exact impl_ScaleOf.mono _ _
      | exact laws_dLess.mono _ _ _
      | exact laws_dLists.mono _ _ _
      | exact laws_dSame.mono _ _ _
      | exact spec_AllRootsUpTo.mono _ _
      | exact spec_RootsWith.mono _ _
      | exact LeO.none _
      | refine LeO.ite ?_ ?_
      | refine LeO.bind ?_ (fun _ => ?_)
    · intro y0 y1 y2 y3 y4 y5 y6
      unfold laws_FnRootQuads.l3
      repeat' first
      | (with_reducible exact ih0 _ _ _ _ _)
      | (with_reducible exact ih1 _ _ _ _ _)
      | (with_reducible exact ih2 _ _ _ _ _ _ _)
      | (with_reducible exact ih3 _ _ _ _)
      | (with_reducible exact ih4 _)
      | (with_reducible exact ih5 _ _ _ _)
      | (with_reducible exact ih6 _ _ _ _)
      | (with_reducible exact ih7 _ _ _ _ _)
      | (with_reducible exact ih8 _ _ _ _ _ _)
      | (with_reducible exact ih9 _ _ _ _ _ _ _)
      | (with_reducible exact ih10 _ _ _ _ _ _)
      | (with_reducible exact impl_AllRootsUpTo.mono _ _)
      | (with_reducible exact impl_IsRoot.mono _ _)
      | (with_reducible exact impl_RootQuad.mono _ _)
      | (with_reducible exact impl_RootsWith.mono _ _)
      | (with_reducible exact impl_ScaleOf.mono _ _)
      | (with_reducible exact laws_dLess.mono _ _ _)
      | (with_reducible exact laws_dLists.mono _ _ _)
      | (with_reducible exact laws_dSame.mono _ _ _)
      | (with_reducible exact spec_AllRootsUpTo.mono _ _)
      | (with_reducible exact spec_RootsWith.mono _ _)
      | (with_reducible exact LeO.refl _)
      | (with_reducible exact LeO.none _)
      | (with_reducible refine LeO.ite ?_ ?_)
      | (with_reducible refine LeO.bind ?_ (fun _ => ?_))
      | exact ih0 _ _ _ _ _
      | exact ih1 _ _ _ _ _
      | exact ih2 _ _ _ _ _ _ _
      | exact ih3 _ _ _ _
      | exact ih4 _
      | exact ih5 _ _ _ _
      | exact ih6 _ _ _ _
      | exact ih7 _ _ _ _ _
      | exact ih8 _ _ _ _ _ _
      | exact ih9 _ _ _ _ _ _ _
      | exact ih10 _ _ _ _ _ _
      | exact impl_AllRootsUpTo.mono _ _
      | exact impl_IsRoot.mono _ _
      | exact impl_RootQuad.mono _ _
      | exact impl_RootsWith.mono _ _
      | exact impl_ScaleOf.mono _ _
      | exact laws_dLess.mono _ _ _
      | exact laws_dLists.mono _ _ _
      | exact laws_dSame.mono _ _ _
      | exact spec_AllRootsUpTo.mono _ _
      | exact spec_RootsWith.mono _ _
      | exact LeO.none _
      | refine LeO.ite ?_ ?_
      | refine LeO.bind ?_ (fun _ => ?_)
    · intro y0 y1 y2 y3 y4 y5
      unfold laws_FnRootQuads.l4
      repeat' first
      | (with_reducible exact ih0 _ _ _ _ _)
      | (with_reducible exact ih1 _ _ _ _ _)
      | (with_reducible exact ih2 _ _ _ _ _ _ _)
      | (with_reducible exact ih3 _ _ _ _)
      | (with_reducible exact ih4 _)
      | (with_reducible exact ih5 _ _ _ _)
      | (with_reducible exact ih6 _ _ _ _)
      | (with_reducible exact ih7 _ _ _ _ _)
      | (with_reducible exact ih8 _ _ _ _ _ _)
      | (with_reducible exact ih9 _ _ _ _ _ _ _)
      | (with_reducible exact ih10 _ _ _ _ _ _)
      | (with_reducible exact impl_AllRootsUpTo.mono _ _)
      | (with_reducible exact impl_IsRoot.mono _ _)
      | (with_reducible exact impl_RootQuad.mono _ _)
      | (with_reducible exact impl_RootsWith.mono _ _)
      | (with_reducible exact impl_ScaleOf.mono _ _)
      | (with_reducible exact laws_dLess.mono _ _ _)
      | (with_reducible exact laws_dLists.mono _ _ _)
      | (with_reducible exact laws_dSame.mono _ _ _)
      | (with_reducible exact spec_AllRootsUpTo.mono _ _)
      | (with_reducible exact spec_RootsWith.mono _ _)
      | (with_reducible exact LeO.refl _)
      | (with_reducible exact LeO.none _)
      | (with_reducible refine LeO.ite ?_ ?_)
      | (with_reducible refine LeO.bind ?_ (fun _ => ?_))
      | exact ih0 _ _ _ _ _
      | exact ih1 _ _ _ _ _
      | exact ih2 _ _ _ _ _ _ _
      | exact ih3 _ _ _ _
      | exact ih4 _
      | exact ih5 _ _ _ _
      | exact ih6 _ _ _ _
      | exact ih7 _ _ _ _ _
      | exact ih8 _ _ _ _ _ _
      | exact ih9 _ _ _ _ _ _ _
      | exact ih10 _ _ _ _ _ _
      | exact impl_AllRootsUpTo.mono _ _
      | exact impl_IsRoot.mono _ _
      | exact impl_RootQuad.mono _ _
      | exact impl_RootsWith.mono _ _
      | exact impl_ScaleOf.mono _ _
      | exact laws_dLess.mono _ _ _
      | exact laws_dLists.mono _ _ _
      | exact laws_dSame.mono _ _ _
      | exact spec_AllRootsUpTo.mono _ _
      | exact spec_RootsWith.mono _ _
      | exact LeO.none _
      | refine LeO.ite ?_ ?_
      | refine LeO.bind ?_ (fun _ => ?_)
theorem laws_FnRootQuads.mono : ∀ a0 a1 k, LeO (laws_FnRootQuads.f k a0 a1) (laws_FnRootQuads.f (k + 1) a0 a1) := by
  intro a0 a1 k
  obtain ⟨ih0, ih1, ih2, ih3, ih4, ih5, ih6, ih7, ih8, ih9, ih10⟩ := laws_FnRootQuads.mono_l k
  unfold laws_FnRootQuads.f
  repeat' first
      | (with_reducible exact ih0 _ _ _ _ _)
      | (with_reducible exact ih1 _ _ _ _ _)
      | (with_reducible exact ih2 _ _ _ _ _ _ _)
      | (with_reducible exact ih3 _ _ _ _)
      | (with_reducible exact ih4 _)
      | (with_reducible exact ih5 _ _ _ _)
      | (with_reducible exact ih6 _ _ _ _)
      | (with_reducible exact ih7 _ _ _ _ _)
      | (with_reducible exact ih8 _ _ _ _ _ _)
      | (with_reducible exact ih9 _ _ _ _ _ _ _)
      | (with_reducible exact ih10 _ _ _ _ _ _)
      | (with_reducible exact impl_AllRootsUpTo.mono _ _)
      | (with_reducible exact impl_IsRoot.mono _ _)
      | (with_reducible exact impl_RootQuad.mono _ _)
      | (with_reducible exact impl_RootsWith.mono _ _)
      | (with_reducible exact impl_ScaleOf.mono _ _)
      | (with_reducible exact laws_dLess.mono _ _ _)
      | (with_reducible exact laws_dLists.mono _ _ _)
      | (with_reducible exact laws_dSame.mono _ _ _)
      | (with_reducible exact spec_AllRootsUpTo.mono _ _)
      | (with_reducible exact spec_RootsWith.mono _ _)
      | (with_reducible exact LeO.refl _)
      | (with_reducible exact LeO.none _)
      | (with_reducible refine LeO.ite ?_ ?_)
      | (with_reducible refine LeO.bind ?_ (fun _ => ?_))
      | exact ih0 _ _ _ _ _
      | exact ih1 _ _ _ _ _
      | exact ih2 _ _ _ _ _ _ _
      | exact ih3 _ _ _ _
      | exact ih4 _
      | exact ih5 _ _ _ _
      | exact ih6 _ _ _ _
      | exact ih7 _ _ _ _ _
      | exact ih8 _ _ _ _ _ _
      | exact ih9 _ _ _ _ _ _ _
      | exact ih10 _ _ _ _ _ _
      | exact impl_AllRootsUpTo.mono _ _
      | exact impl_IsRoot.mono _ _
      | exact impl_RootQuad.mono _ _
      | exact impl_RootsWith.mono _ _
      | exact impl_ScaleOf.mono _ _
      | exact laws_dLess.mono _ _ _
      | exact laws_dLists.mono _ _ _
      | exact laws_dSame.mono _ _ _
      | exact spec_AllRootsUpTo.mono _ _
      | exact spec_RootsWith.mono _ _
      | exact LeO.none _
      | refine LeO.ite ?_ ?_
      | refine LeO.bind ?_ (fun _ => ?_)
set_option maxHeartbeats 8000000 in
set_option maxRecDepth 100000 in
theorem laws_FnRootQuads.calls (k : Nat) (A0 : Option Addr) (c0 : Nat) (l0 : List Int) (A1 : Option Addr) (c1 : Nat) (l1 : List Int) (r : Bool) (w : World) (hr0 : Kd.C (Kd.int .u8) w A0 l0.length l0) (hc0 : l0.length ≤ c0) (hr1 : Kd.C (Kd.int .u8) w A1 l1.length l1) (hc1 : l1.length ≤ c1) (h : laws_FnRootQuads.f k l0 l1 = some true) :
    Calls Try.prog 3 #[.slice A0 l0.length c0, .slice A1 l1.length c1] w fun e w' => e = .returned (.bool true) ∧ Below w.heap.size w w' := by
  have HR0 := Aside0.mk hr0
  have HC0 := Aside0.mk hc0
  clear hr0 hc0
  have HR1 := Aside0.mk hr1
  have HC1 := Aside0.mk hc1
  clear hr1 hc1
  have HB := Aside0.mk (Below.refl w.heap.size w)
  have H : ((laws_big.f l0 l1).bind fun t269 => (if t269 = true then (some true) else ((spec_DrawRootsWith.f l0).bind fun t270 => ((impl_RootsWith.f k t270).bind fun bt271 => ((spec_RootsWith.f k t270).bind fun bt275 => (if (bt271.2 != bt275.2) = true then (laws_FnRootQuads.j0 k l1 t270 bt271.1 bt271.2 true) else ((laws_dLists.f k bt271.1 bt275.1).bind fun t279 => (laws_FnRootQuads.j0 k l1 t270 bt271.1 bt271.2 (!t279))))))))) = some true := h
  clear h
  replace H := Option.bind_eq_some_iff.mp H
  obtain ⟨t269, A30, H⟩ := H
  replace H : (if t269 = true then (some true) else ((spec_DrawRootsWith.f l0).bind fun t270 => ((impl_RootsWith.f k t270).bind fun bt271 => ((spec_RootsWith.f k t270).bind fun bt275 => (if (bt271.2 != bt275.2) = true then (laws_FnRootQuads.j0 k l1 t270 bt271.1 bt271.2 true) else ((laws_dLists.f k bt271.1 bt275.1).bind fun t279 => (laws_FnRootQuads.j0 k l1 t270 bt271.1 bt271.2 (!t279)))))))) = some true := H
  have A3 := Aside0.mk A30
  clear A30
  by_cases c4 : t269 = true
  · subst c4
    have H1 : (some true) = some true := rfl
    clear H
    have H := H1
    clear H1
    clear H
    go_enter Try.func3, Try.ntmps3
    go_wp2_with (first | ((with_reducible refine gate_callee (f := 4) rfl ?_); refine goesL_ (some 41) rfl rfl Try.func4 (by kernel_rfl) rfl #[.slice A0 l0.length c0, .slice A1 l1.length c1] rfl (by (try simp only [List.map_toArray, List.map_cons, List.map_nil]); first | done | rfl | (simp only [List.length_drop, List.length_take]; rfl)) ?_; (with_reducible refine (laws_big.calls _ _ l0 _ _ l1 true _ ?side1 ?side2 ?side3 ?side4 A3.out).mono ?_); (case side1 => repeat (first | exact HR0.out | (with_reducible refine Kd.C_alloc ?_ _) | (with_reducible refine Kd.C_drewN ?_ _) | (with_reducible refine Kd.C_drew ?_))); (case side2 => exact HC0.out); (case side3 => repeat (first | exact HR1.out | (with_reducible refine Kd.C_alloc ?_ _) | (with_reducible refine Kd.C_drewN ?_ _) | (with_reducible refine Kd.C_drew ?_))); (case side4 => exact HC1.out); rintro e w' ⟨rfl, ⟨nd, rfl⟩⟩; refine ⟨_, rfl, ?_⟩))
    go_ret
    exact ⟨by first | rfl | (simp [errW_none, errW_some] <;> rfl) | (simp [*, errW_none, errW_some] <;> rfl), by repeat (first | (with_reducible first | exact HB.out | apply below_alloc | apply pw_below_drewN | apply below_drew1) | exact HB.out)⟩
  · replace c4 := Bool.eq_false_iff.mpr c4
    subst c4
    have H1 : ((spec_DrawRootsWith.f l0).bind fun t270 => ((impl_RootsWith.f k t270).bind fun bt271 => ((spec_RootsWith.f k t270).bind fun bt275 => (if (bt271.2 != bt275.2) = true then (laws_FnRootQuads.j0 k l1 t270 bt271.1 bt271.2 true) else ((laws_dLists.f k bt271.1 bt275.1).bind fun t279 => (laws_FnRootQuads.j0 k l1 t270 bt271.1 bt271.2 (!t279))))))) = some true := by rw [if_neg (show ¬ (false = true) by decide)] at H; exact H
    clear H
    have H := H1
    clear H1
    replace H := Option.bind_eq_some_iff.mp H
    obtain ⟨t270, A50, H⟩ := H
    replace H : ((impl_RootsWith.f k t270).bind fun bt271 => ((spec_RootsWith.f k t270).bind fun bt275 => (if (bt271.2 != bt275.2) = true then (laws_FnRootQuads.j0 k l1 t270 bt271.1 bt271.2 true) else ((laws_dLists.f k bt271.1 bt275.1).bind fun t279 => (laws_FnRootQuads.j0 k l1 t270 bt271.1 bt271.2 (!t279)))))) = some true := H
    have A5 := Aside0.mk A50
    clear A50
    replace H := Option.bind_eq_some_iff.mp H
    obtain ⟨⟨t271, t272⟩, A60, H⟩ := H
    replace H : ((spec_RootsWith.f k t270).bind fun bt275 => (if (t272 != bt275.2) = true then (laws_FnRootQuads.j0 k l1 t270 t271 t272 true) else ((laws_dLists.f k t271 bt275.1).bind fun t279 => (laws_FnRootQuads.j0 k l1 t270 t271 t272 (!t279))))) = some true := H
    have A6 := Aside0.mk A60
    clear A60
    replace H := Option.bind_eq_some_iff.mp H
    obtain ⟨⟨t275, t276⟩, A70, H⟩ := H
    replace H : (if (t272 != t276) = true then (laws_FnRootQuads.j0 k l1 t270 t271 t272 true) else ((laws_dLists.f k t271 t275).bind fun t279 => (laws_FnRootQuads.j0 k l1 t270 t271 t272 (!t279)))) = some true := H
    have A7 := Aside0.mk A70
    clear A70
    have HC8 := Aside0.mk H
    clear H
    go_enter Try.func3, Try.ntmps3
    go_upto_region 6 with (first | ((with_reducible refine gate_callee (f := 4) rfl ?_); refine goesL_ (some 41) rfl rfl Try.func4 (by kernel_rfl) rfl #[.slice A0 l0.length c0, .slice A1 l1.length c1] rfl (by (try simp only [List.map_toArray, List.map_cons, List.map_nil]); first | done | rfl | (simp only [List.length_drop, List.length_take]; rfl)) ?_; (with_reducible refine (laws_big.calls _ _ l0 _ _ l1 false _ ?side1 ?side2 ?side3 ?side4 A3.out).mono ?_); (case side1 => repeat (first | exact HR0.out | (with_reducible refine Kd.C_alloc ?_ _) | (with_reducible refine Kd.C_drewN ?_ _) | (with_reducible refine Kd.C_drew ?_))); (case side2 => exact HC0.out); (case side3 => repeat (first | exact HR1.out | (with_reducible refine Kd.C_alloc ?_ _) | (with_reducible refine Kd.C_drewN ?_ _) | (with_reducible refine Kd.C_drew ?_))); (case side4 => exact HC1.out); rintro e w' ⟨rfl, ⟨nd, rfl⟩⟩; refine ⟨_, rfl, ?_⟩) | ((with_reducible refine gate_callee (f := 5) rfl ?_); refine goesL_ (some 43) rfl rfl Try.func5 (by kernel_rfl) rfl #[.slice A0 l0.length c0] rfl (by (try simp only [List.map_toArray, List.map_cons, List.map_nil]); first | done | rfl | (simp only [List.length_drop, List.length_take]; rfl)) ?_; (with_reducible refine (spec_DrawRootsWith.calls _ _ l0 t270 _ ?side1 ?side2 A5.out).mono ?_); (case side1 => repeat (first | exact HR0.out | (with_reducible refine Kd.C_alloc ?_ _) | (with_reducible refine Kd.C_drewN ?_ _) | (with_reducible refine Kd.C_drew ?_))); (case side2 => exact HC0.out); rintro e w9 ⟨rfl, hb⟩; refine ⟨_, rfl, ?_⟩; have n0_ := Aside0.mk (below_step (by repeat (first | (with_reducible first | exact HB.out | apply below_alloc | apply pw_below_drewN | apply below_drew1) | exact HB.out)) hb); clear HB; have HB := n0_; clear n0_; (try clear hb); (try clear hb2); (try clear hk); (try clear hi)) | ((with_reducible refine gate_callee (f := 6) rfl ?_); refine goesL_ (some 46) rfl rfl Try.func6 (by kernel_rfl) rfl #[.int .i64 t270] rfl (by (try simp only [List.map_toArray, List.map_cons, List.map_nil]); first | done | rfl | (simp only [List.length_drop, List.length_take]; rfl)) ?_; (with_reducible refine (impl_RootsWith.calls k t270 t271 t272 _ A6.out).mono ?_); rintro e w10 ⟨v273, rfl, ho0, hb⟩; refine ⟨_, rfl, ?_⟩; have n0_ := Aside0.mk (Kd.N_lower (Kd.N_mono (ok' := fun k_ => True) (Kd.S_N (Kd.S_bound ho0)) (fun k_ hk_ => trivial)) (below_size (by repeat (first | (with_reducible first | exact HB.out | apply below_alloc | apply pw_below_drewN | apply below_drew1) | exact HB.out)))); have n1_ := Aside0.mk (below_step (by repeat (first | (with_reducible first | exact HB.out | apply below_alloc | apply pw_below_drewN | apply below_drew1) | exact HB.out)) hb); clear HB; have HO274 := n0_; have HB := n1_; clear n0_ n1_; (try clear hb); (try clear hb2); (try clear hk); (try clear hi); (try clear ho0)) | ((with_reducible refine gate_callee (f := 7) rfl ?_); refine goesL_ (some 51) rfl rfl Try.func7 (by kernel_rfl) rfl #[.int .i64 t270] rfl (by (try simp only [List.map_toArray, List.map_cons, List.map_nil]); first | done | rfl | (simp only [List.length_drop, List.length_take]; rfl)) ?_; (with_reducible refine (spec_RootsWith.calls k t270 t275 t276 _ A7.out).mono ?_); rintro e w11 ⟨v277, rfl, ho0, hb⟩; refine ⟨_, rfl, ?_⟩; have n0_ := Aside0.mk (Kd.N_elder' (by (with_reducible repeat (first | apply Kd.N_alloc | apply Kd.N_drewN | apply Kd.N_drew)); exact HO274.out) (by first | exact Kd.N_base ho0 | exact Kd.S_base ho0) hb); have n1_ := Aside0.mk (Kd.N_lower (Kd.N_mono (ok' := fun k_ => some k_ ≠ (v273 : Value).ownBlock) (Kd.S_N (Kd.S_bound ho0)) (fun k_ hk_ => (Kd.fresh' (Kd.N_lt (by (with_reducible repeat (first | apply Kd.N_alloc | apply Kd.N_drewN | apply Kd.N_drew)); exact HO274.out)) k_ hk_.2.1))) (below_size (by repeat (first | (with_reducible first | exact HB.out | apply below_alloc | apply pw_below_drewN | apply below_drew1) | exact HB.out)))); have n2_ := Aside0.mk (below_step (by repeat (first | (with_reducible first | exact HB.out | apply below_alloc | apply pw_below_drewN | apply below_drew1) | exact HB.out)) hb); clear HO274; clear HB; have HO274 := n0_; have HO278 := n1_; have HB := n2_; clear n0_ n1_ n2_; (try clear hb); (try clear hb2); (try clear hk); (try clear hi); (try clear ho0)))
    (try simp only [Act.put, List.setIfInBounds_toArray, List.set_cons_zero, List.set_cons_succ])
    go_cut [62] (fun v62 wc => ∃ (kq : Nat) (x62_7 : Bool), v62 = .bool x62_7 ∧ Aside0 (laws_FnRootQuads.j0 kq l1 t270 t271 t272 x62_7 = some true) ∧ Aside0 (kq ≤ k) ∧ Aside0 (Kd.N (Kd.slice 3 (Kd.int .i64)) 29 wc w.heap.size (fun _ => True) v273 t271) ∧ Aside0 (Below w.heap.size w wc))
    case first => as_aux_lemma =>
      have H := HC8.out
      clear HC8
      by_cases c12 : (t272 != t276) = true
      · rw [if_pos c12] at H
        have c12b0 : (t272 != t276) = true := c12
        (try (have c12b1 : decide (t272 = t276) = false := by simpa using c12))
        (try (have c12b2 : (t272 == t276) = false := by simpa using c12))
        (try (have c12b3 : ¬ (t272 = t276) := by simpa using c12))
        clear c12
        (first | rw [c12b0] | (simp only [i64_w, i32_w]; rw [c12b0]) | rw [c12b1] | skip)
        have H' := Aside0.mk H
        clear H
        go_wp2
        go_meet
        case rel => exact ⟨_, (true), (by first | rfl | (simp; done) | (simp [*]; done)), H', ⟨by first | omega | exact Nat.le_refl _⟩, ⟨by (with_reducible repeat (first | apply Kd.N_alloc | apply Kd.N_drewN | apply Kd.N_drew)); exact Kd.N_mono HO274.out (fun _ hk => trivial)⟩, ⟨by repeat (first | (with_reducible first | exact HB.out | apply below_alloc | apply pw_below_drewN | apply below_drew1) | exact HB.out)⟩⟩
      · rw [if_neg c12] at H
        have c12b0 : (t272 != t276) = false := by simpa using c12
        (try (have c12b1 : decide (t272 = t276) = true := by simpa using c12))
        (try (have c12b2 : (t272 == t276) = true := by simpa using c12))
        clear c12
        (first | rw [c12b0] | (simp only [i64_w, i32_w]; rw [c12b0]) | rw [c12b1] | skip)
        replace H := Option.bind_eq_some_iff.mp H
        obtain ⟨t279, A130, H⟩ := H
        replace H : (laws_FnRootQuads.j0 k l1 t270 t271 t272 (!t279)) = some true := H
        have A13 := Aside0.mk A130
        clear A130
        have H' := Aside0.mk H
        clear H
        obtain ⟨Ao14, co14, eo14⟩ := Kd.N_slice HO274.out
        subst eo14
        obtain ⟨Ao15, co15, eo15⟩ := Kd.N_slice HO278.out
        subst eo15
        go_wp2_with (first | (go_at_call 8; (with_reducible refine (laws_dLists.calls k _ _ t271 _ _ t275 t279 _ ?side1 ?side2 ?side3 ?side4 A13.out).mono ?_); (case side1 => repeat (first | exact (Kd.N_reads' HO274.out).2.2 | (with_reducible refine Kd.C_alloc ?_ _) | (with_reducible refine Kd.C_drewN ?_ _) | (with_reducible refine Kd.C_drew ?_))); (case side2 => exact (Kd.N_reads' HO274.out).2.1); (case side3 => repeat (first | exact (Kd.N_reads' HO278.out).2.2 | (with_reducible refine Kd.C_alloc ?_ _) | (with_reducible refine Kd.C_drewN ?_ _) | (with_reducible refine Kd.C_drew ?_))); (case side4 => exact (Kd.N_reads' HO278.out).2.1); rintro e w' ⟨rfl, ⟨nd, rfl⟩⟩))
        go_meet
        case rel => exact ⟨_, (!t279), (by first | rfl | (simp; done) | (simp [*]; done)), H', ⟨by first | omega | exact Nat.le_refl _⟩, ⟨by (with_reducible repeat (first | apply Kd.N_alloc | apply Kd.N_drewN | apply Kd.N_drew)); exact Kd.N_mono HO274.out (fun _ hk => trivial)⟩, ⟨by repeat (first | (with_reducible first | exact HB.out | apply below_alloc | apply pw_below_drewN | apply below_drew1) | exact HB.out)⟩⟩
    case rest =>
      clear HC8
      try clear c1
      try clear p2
      try clear c3
      try clear c4
      try clear c5
      try clear c6
      try clear c7
      try clear c12
      try clear c12b0
      try clear c12b1
      try clear c12b2
      obtain ⟨kq, x62_7, rfl, HA, HJ7, HO_6, HB⟩ := hcut
      cases kq with
      | zero => exact absurd HA.out (by simp [laws_FnRootQuads.j0])
      | succ kj7 =>
        have H := HA.out
        clear HA
        simp only [laws_FnRootQuads.j0] at H
        by_cases c16 : x62_7 = true
        · subst c16
          have H1 : (some false) = some true := by rw [if_pos rfl] at H; exact H
          clear H
          have H := H1
          clear H1
          exact absurd (Option.some.inj H) (by decide)
        · replace c16 := Bool.eq_false_iff.mpr c16
          subst c16
          have H1 : (if t272 = true then (laws_FnRootQuads.j1 kj7 l1 t270 t271 t272 ((t271.length : Int) == 0)) else (laws_FnRootQuads.j1 kj7 l1 t270 t271 t272 false)) = some true := by rw [if_neg (show ¬ (false = true) by decide)] at H; exact H
          clear H
          have H := H1
          clear H1
          have HC17 := Aside0.mk H
          clear H
          go_upto_region 8 with (fail)
          go_cut [68] (fun v68 wc => ∃ (kq : Nat) (x68_16 : Bool), v68 = .bool x68_16 ∧ Aside0 (laws_FnRootQuads.j1 kq l1 t270 t271 t272 x68_16 = some true) ∧ Aside0 (kq ≤ kj7) ∧ Aside0 (Kd.N (Kd.slice 3 (Kd.int .i64)) 29 wc w.heap.size (fun _ => True) v273 t271) ∧ Aside0 (Below w.heap.size w wc))
          case first => as_aux_lemma =>
            have H := HC17.out
            clear HC17
            by_cases c18 : t272 = true
            · subst c18
              have H1 : (laws_FnRootQuads.j1 kj7 l1 t270 t271 true ((t271.length : Int) == 0)) = some true := by rw [if_pos rfl] at H; exact H
              clear H
              have H := H1
              clear H1
              have H' := Aside0.mk H
              clear H
              obtain ⟨Ao19, co19, eo19⟩ := Kd.N_slice HO_6.out
              subst eo19
              go_wp2
              go_meet
              case rel => exact ⟨_, (((t271.length : Int) == 0)), (by first | rfl | (simp; done) | (simp [*]; done)), H', ⟨by have := HJ7.out; first | omega | exact Nat.le_refl _⟩, ⟨by (with_reducible repeat (first | apply Kd.N_alloc | apply Kd.N_drewN | apply Kd.N_drew)); exact HO_6.out⟩, ⟨by repeat (first | (with_reducible first | exact HB.out | apply below_alloc | apply pw_below_drewN | apply below_drew1) | exact HB.out)⟩⟩
            · replace c18 := Bool.eq_false_iff.mpr c18
              subst c18
              have H1 : (laws_FnRootQuads.j1 kj7 l1 t270 t271 false false) = some true := by rw [if_neg (show ¬ (false = true) by decide)] at H; exact H
              clear H
              have H := H1
              clear H1
              have H' := Aside0.mk H
              clear H
              go_wp2
              go_meet
              case rel => exact ⟨_, (false), (by first | rfl | (simp; done) | (simp [*]; done)), H', ⟨by have := HJ7.out; first | omega | exact Nat.le_refl _⟩, ⟨by (with_reducible repeat (first | apply Kd.N_alloc | apply Kd.N_drewN | apply Kd.N_drew)); exact HO_6.out⟩, ⟨by repeat (first | (with_reducible first | exact HB.out | apply below_alloc | apply pw_below_drewN | apply below_drew1) | exact HB.out)⟩⟩
          case rest =>
            clear HC17
            try clear c1
            try clear p2
            try clear c3
            try clear c4
            try clear c5
            try clear c6
            try clear c7
            try clear c12
            try clear c12b0
            try clear c12b1
            try clear c12b2
            try clear c16
            try clear c18
            try clear p2
            obtain ⟨kq, x68_16, rfl, HA, HJ16, HO_6, HB⟩ := hcut
            cases kq with
            | zero => exact absurd HA.out (by simp [laws_FnRootQuads.j1])
            | succ kj16 =>
              have H := HA.out
              clear HA
              simp only [laws_FnRootQuads.j1] at H
              by_cases c20 : x68_16 = true
              · subst c20
                have H1 : (some false) = some true := by rw [if_pos rfl] at H; exact H
                clear H
                have H := H1
                clear H1
                exact absurd (Option.some.inj H) (by decide)
              · replace c20 := Bool.eq_false_iff.mpr c20
                subst c20
                have H1 : (laws_FnRootQuads.l0 kj16 l1 t270 t271 t272 t271 (t271.length : Int) 0) = some true := by rw [if_neg (show ¬ (false = true) by decide)] at H; exact H
                clear H
                have H := H1
                clear H1
                have H' := Aside0.mk H
                clear H
                obtain ⟨Ao21, co21, eo21⟩ := Kd.N_slice HO_6.out
                subst eo21
                go_wp2
                go_loopg [71] kj16 (fun kq v71 w' => ∃ (x71_3 : Int), v71 = .int .i64 x71_3 ∧ Aside0 (laws_FnRootQuads.l0 kq l1 t270 t271 t272 t271 (t271.length : Int) x71_3 = some true) ∧ Aside0 (kq ≤ kj16) ∧ Aside0 (Kd.N (Kd.slice 3 (Kd.int .i64)) 29 w' w.heap.size (fun _ => True) (.slice Ao21 t271.length co21) t271) ∧ Aside0 (Kd.N (Kd.slice 3 (Kd.int .i64)) 29 w' w.heap.size (fun _ => True) (.slice Ao21 t271.length co21) t271) ∧ Aside0 (Below w.heap.size w w'))
                case atStart => exact ⟨(0), (by first | rfl | (simp; done) | (simp [*]; done)), H', ⟨Nat.le_refl _⟩, ⟨by (with_reducible repeat (first | apply Kd.N_alloc | apply Kd.N_drewN | apply Kd.N_drew)); exact HO_6.out⟩, ⟨by (with_reducible repeat (first | apply Kd.N_alloc | apply Kd.N_drewN | apply Kd.N_drew)); exact HO_6.out⟩, ⟨by repeat (first | (with_reducible first | exact HB.out | apply below_alloc | apply pw_below_drewN | apply below_drew1) | exact HB.out)⟩⟩
                case round =>
                  clear H'
                  try clear c1
                  try clear c2
                  try clear p2
                  try clear c3
                  try clear c4
                  try clear c5
                  try clear c6
                  try clear c7
                  try clear c12
                  try clear c12b0
                  try clear c12b1
                  try clear c12b2
                  try clear c16
                  try clear c18
                  try clear c20
                  try clear p2
                  obtain ⟨x71_3, rfl, HA, HK3, HO_6, HO_69, HB⟩ := hrel
                  cases gk with
                  | zero => exact absurd HA.out (by simp [laws_FnRootQuads.l0])
                  | succ k3 =>
                    have H := HA.out
                    clear HA
                    simp only [laws_FnRootQuads.l0] at H
                    by_cases c22 : x71_3 < (t271.length : Int)
                    · rw [if_pos c22] at H
                      have c22b0 : decide (x71_3 < (t271.length : Int)) = true := decide_eq_true c22
                      clear c22
                      by_cases c23 : 0 ≤ x71_3
                      · rw [if_pos c23] at H
                        have c23b0 : decide (0 ≤ x71_3) = true := decide_eq_true c23
                        clear c23
                        by_cases c24 : x71_3 < (t271.length : Int)
                        · rw [if_pos c24] at H
                          have c24b0 : decide (x71_3 < (t271.length : Int)) = true := decide_eq_true c24
                          clear c24
                          replace H := Option.bind_eq_some_iff.mp H
                          obtain ⟨⟨t281, t282⟩, A250, H⟩ := H
                          replace H : ((impl_RootQuad.f k3 (rd_L2 t271 x71_3)).bind fun bt283 => ((impl_ScaleOf.f k3 (rd_L2 t271 x71_3)).bind fun bt287 => (if t282 = true then (if t281 = true then (if bt283.2 = true then ((laws_dSame.f k3 bt283.1 (rd_L2 t271 x71_3)).bind fun t289 => (if t289 = true then (if bt287.2 = true then (if bt287.1 = 1 then (if 0 < ((rd_L2 t271 x71_3).length : Int) then (if (rd (rd_L2 t271 x71_3) 0) = (wrap64 (-t270)) then (if x71_3 > 0 then (if 0 ≤ (wrap64 (x71_3 - 1)) then (if (wrap64 (x71_3 - 1)) < (t271.length : Int) then ((laws_dLess.f k3 (rd_L2 t271 (wrap64 (x71_3 - 1))) (rd_L2 t271 x71_3)).bind fun t292 => (if t292 = true then (laws_FnRootQuads.l0 k3 l1 t270 t271 t272 t271 (t271.length : Int) (wrap64 (x71_3 + 1))) else (some false))) else (none)) else (none)) else (laws_FnRootQuads.l0 k3 l1 t270 t271 t272 t271 (t271.length : Int) (wrap64 (x71_3 + 1)))) else (some false)) else (none)) else (some false)) else (some false)) else (some false))) else (some false)) else (some false)) else (some false)))) = some true := H
                          have A25 := Aside0.mk A250
                          clear A250
                          replace H := Option.bind_eq_some_iff.mp H
                          obtain ⟨⟨t283, t284⟩, A260, H⟩ := H
                          replace H : ((impl_ScaleOf.f k3 (rd_L2 t271 x71_3)).bind fun bt287 => (if t282 = true then (if t281 = true then (if t284 = true then ((laws_dSame.f k3 t283 (rd_L2 t271 x71_3)).bind fun t289 => (if t289 = true then (if bt287.2 = true then (if bt287.1 = 1 then (if 0 < ((rd_L2 t271 x71_3).length : Int) then (if (rd (rd_L2 t271 x71_3) 0) = (wrap64 (-t270)) then (if x71_3 > 0 then (if 0 ≤ (wrap64 (x71_3 - 1)) then (if (wrap64 (x71_3 - 1)) < (t271.length : Int) then ((laws_dLess.f k3 (rd_L2 t271 (wrap64 (x71_3 - 1))) (rd_L2 t271 x71_3)).bind fun t292 => (if t292 = true then (laws_FnRootQuads.l0 k3 l1 t270 t271 t272 t271 (t271.length : Int) (wrap64 (x71_3 + 1))) else (some false))) else (none)) else (none)) else (laws_FnRootQuads.l0 k3 l1 t270 t271 t272 t271 (t271.length : Int) (wrap64 (x71_3 + 1)))) else (some false)) else (none)) else (some false)) else (some false)) else (some false))) else (some false)) else (some false)) else (some false))) = some true := H
                          have A26 := Aside0.mk A260
                          clear A260
                          replace H := Option.bind_eq_some_iff.mp H
                          obtain ⟨⟨t287, t288⟩, A270, H⟩ := H
                          replace H : (if t282 = true then (if t281 = true then (if t284 = true then ((laws_dSame.f k3 t283 (rd_L2 t271 x71_3)).bind fun t289 => (if t289 = true then (if t288 = true then (if t287 = 1 then (if 0 < ((rd_L2 t271 x71_3).length : Int) then (if (rd (rd_L2 t271 x71_3) 0) = (wrap64 (-t270)) then (if x71_3 > 0 then (if 0 ≤ (wrap64 (x71_3 - 1)) then (if (wrap64 (x71_3 - 1)) < (t271.length : Int) then ((laws_dLess.f k3 (rd_L2 t271 (wrap64 (x71_3 - 1))) (rd_L2 t271 x71_3)).bind fun t292 => (if t292 = true then (laws_FnRootQuads.l0 k3 l1 t270 t271 t272 t271 (t271.length : Int) (wrap64 (x71_3 + 1))) else (some false))) else (none)) else (none)) else (laws_FnRootQuads.l0 k3 l1 t270 t271 t272 t271 (t271.length : Int) (wrap64 (x71_3 + 1)))) else (some false)) else (none)) else (some false)) else (some false)) else (some false))) else (some false)) else (some false)) else (some false)) = some true := H
                          have A27 := Aside0.mk A270
                          clear A270
                          by_cases c28 : t282 = true
                          · subst c28
                            have H1 : (if t281 = true then (if t284 = true then ((laws_dSame.f k3 t283 (rd_L2 t271 x71_3)).bind fun t289 => (if t289 = true then (if t288 = true then (if t287 = 1 then (if 0 < ((rd_L2 t271 x71_3).length : Int) then (if (rd (rd_L2 t271 x71_3) 0) = (wrap64 (-t270)) then (if x71_3 > 0 then (if 0 ≤ (wrap64 (x71_3 - 1)) then (if (wrap64 (x71_3 - 1)) < (t271.length : Int) then ((laws_dLess.f k3 (rd_L2 t271 (wrap64 (x71_3 - 1))) (rd_L2 t271 x71_3)).bind fun t292 => (if t292 = true then (laws_FnRootQuads.l0 k3 l1 t270 t271 t272 t271 (t271.length : Int) (wrap64 (x71_3 + 1))) else (some false))) else (none)) else (none)) else (laws_FnRootQuads.l0 k3 l1 t270 t271 t272 t271 (t271.length : Int) (wrap64 (x71_3 + 1)))) else (some false)) else (none)) else (some false)) else (some false)) else (some false))) else (some false)) else (some false)) = some true := by rw [if_pos rfl] at H; exact H
                            clear H
                            have H := H1
                            clear H1
                            by_cases c29 : t281 = true
                            · subst c29
                              have H1 : (if t284 = true then ((laws_dSame.f k3 t283 (rd_L2 t271 x71_3)).bind fun t289 => (if t289 = true then (if t288 = true then (if t287 = 1 then (if 0 < ((rd_L2 t271 x71_3).length : Int) then (if (rd (rd_L2 t271 x71_3) 0) = (wrap64 (-t270)) then (if x71_3 > 0 then (if 0 ≤ (wrap64 (x71_3 - 1)) then (if (wrap64 (x71_3 - 1)) < (t271.length : Int) then ((laws_dLess.f k3 (rd_L2 t271 (wrap64 (x71_3 - 1))) (rd_L2 t271 x71_3)).bind fun t292 => (if t292 = true then (laws_FnRootQuads.l0 k3 l1 t270 t271 t272 t271 (t271.length : Int) (wrap64 (x71_3 + 1))) else (some false))) else (none)) else (none)) else (laws_FnRootQuads.l0 k3 l1 t270 t271 t272 t271 (t271.length : Int) (wrap64 (x71_3 + 1)))) else (some false)) else (none)) else (some false)) else (some false)) else (some false))) else (some false)) = some true := by rw [if_pos rfl] at H; exact H
                              clear H
                              have H := H1
                              clear H1
                              by_cases c30 : t284 = true
                              · subst c30
                                have H1 : ((laws_dSame.f k3 t283 (rd_L2 t271 x71_3)).bind fun t289 => (if t289 = true then (if t288 = true then (if t287 = 1 then (if 0 < ((rd_L2 t271 x71_3).length : Int) then (if (rd (rd_L2 t271 x71_3) 0) = (wrap64 (-t270)) then (if x71_3 > 0 then (if 0 ≤ (wrap64 (x71_3 - 1)) then (if (wrap64 (x71_3 - 1)) < (t271.length : Int) then ((laws_dLess.f k3 (rd_L2 t271 (wrap64 (x71_3 - 1))) (rd_L2 t271 x71_3)).bind fun t292 => (if t292 = true then (laws_FnRootQuads.l0 k3 l1 t270 t271 t272 t271 (t271.length : Int) (wrap64 (x71_3 + 1))) else (some false))) else (none)) else (none)) else (laws_FnRootQuads.l0 k3 l1 t270 t271 t272 t271 (t271.length : Int) (wrap64 (x71_3 + 1)))) else (some false)) else (none)) else (some false)) else (some false)) else (some false))) = some true := by rw [if_pos rfl] at H; exact H
                                clear H
                                have H := H1
                                clear H1
                                replace H := Option.bind_eq_some_iff.mp H
                                obtain ⟨t289, A310, H⟩ := H
                                replace H : (if t289 = true then (if t288 = true then (if t287 = 1 then (if 0 < ((rd_L2 t271 x71_3).length : Int) then (if (rd (rd_L2 t271 x71_3) 0) = (wrap64 (-t270)) then (if x71_3 > 0 then (if 0 ≤ (wrap64 (x71_3 - 1)) then (if (wrap64 (x71_3 - 1)) < (t271.length : Int) then ((laws_dLess.f k3 (rd_L2 t271 (wrap64 (x71_3 - 1))) (rd_L2 t271 x71_3)).bind fun t292 => (if t292 = true then (laws_FnRootQuads.l0 k3 l1 t270 t271 t272 t271 (t271.length : Int) (wrap64 (x71_3 + 1))) else (some false))) else (none)) else (none)) else (laws_FnRootQuads.l0 k3 l1 t270 t271 t272 t271 (t271.length : Int) (wrap64 (x71_3 + 1)))) else (some false)) else (none)) else (some false)) else (some false)) else (some false)) = some true := H
                                have A31 := Aside0.mk A310
                                clear A310
                                by_cases c32 : t289 = true
                                · subst c32
                                  have H1 : (if t288 = true then (if t287 = 1 then (if 0 < ((rd_L2 t271 x71_3).length : Int) then (if (rd (rd_L2 t271 x71_3) 0) = (wrap64 (-t270)) then (if x71_3 > 0 then (if 0 ≤ (wrap64 (x71_3 - 1)) then (if (wrap64 (x71_3 - 1)) < (t271.length : Int) then ((laws_dLess.f k3 (rd_L2 t271 (wrap64 (x71_3 - 1))) (rd_L2 t271 x71_3)).bind fun t292 => (if t292 = true then (laws_FnRootQuads.l0 k3 l1 t270 t271 t272 t271 (t271.length : Int) (wrap64 (x71_3 + 1))) else (some false))) else (none)) else (none)) else (laws_FnRootQuads.l0 k3 l1 t270 t271 t272 t271 (t271.length : Int) (wrap64 (x71_3 + 1)))) else (some false)) else (none)) else (some false)) else (some false)) = some true := by rw [if_pos rfl] at H; exact H
                                  clear H
                                  have H := H1
                                  clear H1
                                  by_cases c33 : t288 = true
                                  · subst c33
                                    have H1 : (if t287 = 1 then (if 0 < ((rd_L2 t271 x71_3).length : Int) then (if (rd (rd_L2 t271 x71_3) 0) = (wrap64 (-t270)) then (if x71_3 > 0 then (if 0 ≤ (wrap64 (x71_3 - 1)) then (if (wrap64 (x71_3 - 1)) < (t271.length : Int) then ((laws_dLess.f k3 (rd_L2 t271 (wrap64 (x71_3 - 1))) (rd_L2 t271 x71_3)).bind fun t292 => (if t292 = true then (laws_FnRootQuads.l0 k3 l1 t270 t271 t272 t271 (t271.length : Int) (wrap64 (x71_3 + 1))) else (some false))) else (none)) else (none)) else (laws_FnRootQuads.l0 k3 l1 t270 t271 t272 t271 (t271.length : Int) (wrap64 (x71_3 + 1)))) else (some false)) else (none)) else (some false)) = some true := by rw [if_pos rfl] at H; exact H
                                    clear H
                                    have H := H1
                                    clear H1
                                    by_cases c34 : t287 = 1
                                    · rw [if_pos c34] at H
                                      have c34b0 : (t287 == 1) = true := beq_iff_eq.mpr c34
                                      have c34b1 : (t287 != 1) = false := bne_eq_false_iff_eq.mpr c34
                                      clear c34
                                      by_cases c35 : 0 < ((rd_L2 t271 x71_3).length : Int)
                                      · rw [if_pos c35] at H
                                        have c35b0 : decide (0 < ((rd_L2 t271 x71_3).length : Int)) = true := decide_eq_true c35
                                        have c35b1 : decide (0 < (rd_L2 t271 x71_3).length) = true := decide_eq_true (by omega)
                                        clear c35
                                        by_cases c36 : (rd (rd_L2 t271 x71_3) 0) = (wrap64 (-t270))
                                        · rw [if_pos c36] at H
                                          have c36b0 : ((rd (rd_L2 t271 x71_3) 0) == (wrap64 (-t270))) = true := beq_iff_eq.mpr c36
                                          have c36b1 : ((rd (rd_L2 t271 x71_3) 0) != (wrap64 (-t270))) = false := bne_eq_false_iff_eq.mpr c36
                                          clear c36
                                          by_cases c37 : x71_3 > 0
                                          · rw [if_pos c37] at H
                                            have c37b0 : decide (0 < x71_3) = true := decide_eq_true c37
                                            clear c37
                                            obtain ⟨ji38, hji38⟩ : ∃ j_ : Int, (wrap64 (x71_3 - 1)) = j_ := ⟨_, rfl⟩
                                            replace H : (if 0 ≤ (ji38) then (if (ji38) < (t271.length : Int) then ((laws_dLess.f k3 (rd_L2 t271 (ji38)) (rd_L2 t271 x71_3)).bind fun t292 => (if t292 = true then (laws_FnRootQuads.l0 k3 l1 t270 t271 t272 t271 (t271.length : Int) (wrap64 (x71_3 + 1))) else (some false))) else (none)) else (none)) = some true := by first | (rw [hji38] at H; exact H) | (simp only [hji38] at H ⊢; exact H)
                                            (try rw [hji38] at A25)
                                            (try rw [hji38] at A26)
                                            (try rw [hji38] at A27)
                                            (try rw [hji38] at A31)
                                            have hji38w : (IntKind.i64.wrap (x71_3 - 1)) = ji38 := (i64_w _).trans hji38
                                            by_cases c39 : 0 ≤ (ji38)
                                            · rw [if_pos c39] at H
                                              have c39b0 : decide (0 ≤ (ji38)) = true := decide_eq_true c39
                                              clear c39
                                              by_cases c40 : (ji38) < (t271.length : Int)
                                              · rw [if_pos c40] at H
                                                have c40b0 : decide ((ji38) < (t271.length : Int)) = true := decide_eq_true c40
                                                clear c40
                                                replace H := Option.bind_eq_some_iff.mp H
                                                obtain ⟨t292, A410, H⟩ := H
                                                replace H : (if t292 = true then (laws_FnRootQuads.l0 k3 l1 t270 t271 t272 t271 (t271.length : Int) (wrap64 (x71_3 + 1))) else (some false)) = some true := H
                                                have A41 := Aside0.mk A410
                                                clear A410
                                                by_cases c42 : t292 = true
                                                · subst c42
                                                  have H1 : (laws_FnRootQuads.l0 k3 l1 t270 t271 t272 t271 (t271.length : Int) (wrap64 (x71_3 + 1))) = some true := by rw [if_pos rfl] at H; exact H
                                                  clear H
                                                  have H := H1
                                                  clear H1
                                                  have H' := Aside0.mk H
                                                  clear H
                                                  have p280 : 0 ≤ (x71_3 : Int) := of_decide_eq_true (by first | (with_reducible assumption) | assumption)
                                                  have q280 : x71_3 < (t271.length : Int) := of_decide_eq_true (by first | (with_reducible assumption) | assumption)
                                                  obtain ⟨ad280, A280_0, c280_0, e280, hx280_0, hl280_0, hi280_0⟩ := at_L2 (Kd.N_reads' HO_69.out).2.2 x71_3 p280 q280
                                                  cases e280
                                                  obtain ⟨ce280, hce280, hMe280, hcc280⟩ := Kd.N_get HO_69.out [] x71_3 p280 (by first | exact q280 | exact of_decide_eq_true (by first | (with_reducible assumption) | assumption) | (have e_ := (Kd.N_reads' HO_69.out).1; omega))
                                                  obtain ⟨ua280_0, uc280_0, rfl, ul280_0, ge280_0⟩ := Kd.FK_slice_open hMe280
                                                  have hv280_0 := hcc280 0 _ rfl
                                                  rw [Nat.add_zero, show ((Kd.slice 3 (Kd.int .i64))).sz = 1 from rfl, Nat.mul_one] at hv280_0
                                                  replace hv280_0 := Option.some.inj (hv280_0.symm.trans hx280_0)
                                                  injection hv280_0 with hva_ hvn_ hvc_
                                                  rw [hva_] at ge280_0
                                                  rw [hvc_] at ul280_0
                                                  have HL280_0 := Aside0.mk (show Kd.V (Kd.int .i64) 3 _ w.heap.size _ _ (rd_L2 t271 x71_3) from Kd.V_mk ul280_0 ge280_0)
                                                  clear hva_ hvn_ hvc_ ge280_0 ul280_0
                                                  clear hcc280 hce280
                                                  have HR280_0 := Aside0.mk hi280_0
                                                  have HC280_0 := Aside0.mk hl280_0
                                                  clear hi280_0 hl280_0
                                                  replace p280 := eq_true p280
                                                  replace q280 := eq_true q280
                                                  go_wp2_with (first | ((with_reducible refine gate_callee (f := 9) rfl ?_); refine goesL_ (some 78) rfl rfl Try.func9 (by kernel_rfl) rfl #[.slice A280_0 (rd_L2 t271 x71_3).length c280_0] rfl (by (try simp only [List.map_toArray, List.map_cons, List.map_nil]); first | done | rfl | (simp only [List.length_drop, List.length_take]; rfl)) ?_; (with_reducible refine (impl_IsRoot.calls k3 _ _ (rd_L2 t271 x71_3) true true _ ?side1 ?side2 A25.out).mono ?_); (case side1 => repeat (first | exact (by repeat (first | (with_reducible exact HR280_0.out) | (with_reducible refine Kd.C_alloc ?_ _) | (with_reducible refine Kd.C_drewN ?_ _) | (with_reducible refine Kd.C_drew ?_) | exact HR280_0.out)) | (with_reducible refine Kd.C_alloc ?_ _) | (with_reducible refine Kd.C_drewN ?_ _) | (with_reducible refine Kd.C_drew ?_))); (case side2 => exact HC280_0.out); rintro e w43 ⟨rfl, hb⟩; refine ⟨_, rfl, ?_⟩; have n0_ := Aside0.mk (Kd.N_below (by (with_reducible repeat (first | apply Kd.N_alloc | apply Kd.N_drewN | apply Kd.N_drew)); exact HO_6.out) hb); have n1_ := Aside0.mk (Kd.N_below (by (with_reducible repeat (first | apply Kd.N_alloc | apply Kd.N_drewN | apply Kd.N_drew)); exact HO_69.out) hb); have n2_ := Aside0.mk (Kd.V_below (by (with_reducible repeat (first | apply Kd.V_alloc | apply Kd.V_drewN | apply Kd.V_drew)); exact HL280_0.out) hb); have n3_ := Aside0.mk (Kd.C_below (by repeat (first | (with_reducible exact HR280_0.out) | (with_reducible refine Kd.C_alloc ?_ _) | (with_reducible refine Kd.C_drewN ?_ _) | (with_reducible refine Kd.C_drew ?_) | exact HR280_0.out)) hb); have n4_ := Aside0.mk (below_step (by repeat (first | (with_reducible first | exact HB.out | apply below_alloc | apply pw_below_drewN | apply below_drew1) | exact HB.out)) hb); clear HO_6; clear HO_69; clear HL280_0; clear HR280_0; clear HB; have HO_6 := n0_; have HO_69 := n1_; have HL280_0 := n2_; have HR280_0 := n3_; have HB := n4_; clear n0_ n1_ n2_ n3_ n4_; (try clear hb); (try clear hb2); (try clear hk); (try clear hi)) | ((with_reducible refine gate_callee (f := 10) rfl ?_); refine goesL_ (some 83) rfl rfl Try.func10 (by kernel_rfl) rfl #[.slice A280_0 (rd_L2 t271 x71_3).length c280_0] rfl (by (try simp only [List.map_toArray, List.map_cons, List.map_nil]); first | done | rfl | (simp only [List.length_drop, List.length_take]; rfl)) ?_; (with_reducible refine (impl_RootQuad.calls k3 _ _ (rd_L2 t271 x71_3) t283 true _ ?side1 ?side2 A26.out).mono ?_); (case side1 => repeat (first | exact (by repeat (first | (with_reducible exact HR280_0.out) | (with_reducible refine Kd.C_alloc ?_ _) | (with_reducible refine Kd.C_drewN ?_ _) | (with_reducible refine Kd.C_drew ?_) | exact HR280_0.out)) | (with_reducible refine Kd.C_alloc ?_ _) | (with_reducible refine Kd.C_drewN ?_ _) | (with_reducible refine Kd.C_drew ?_))); (case side2 => exact HC280_0.out); rintro e w44 ⟨v285, rfl, ho0, hb⟩; refine ⟨_, rfl, ?_⟩; have n0_ := Aside0.mk (Kd.N_elder' (by (with_reducible repeat (first | apply Kd.N_alloc | apply Kd.N_drewN | apply Kd.N_drew)); exact HO_6.out) (Kd.R_base ho0) hb); have n1_ := Aside0.mk (Kd.N_elder' (by (with_reducible repeat (first | apply Kd.N_alloc | apply Kd.N_drewN | apply Kd.N_drew)); exact HO_69.out) (Kd.R_base ho0) hb); have n2_ := Aside0.mk (Kd.V_elder' (by (with_reducible repeat (first | apply Kd.V_alloc | apply Kd.V_drewN | apply Kd.V_drew)); exact HL280_0.out) (Kd.R_base ho0) hb); have n3_ := Aside0.mk (Kd.R_lower ho0 (below_size (by repeat (first | (with_reducible first | exact HB.out | apply below_alloc | apply pw_below_drewN | apply below_drew1) | exact HB.out)))); have n4_ := Aside0.mk (Kd.C_below (by repeat (first | (with_reducible exact HR280_0.out) | (with_reducible refine Kd.C_alloc ?_ _) | (with_reducible refine Kd.C_drewN ?_ _) | (with_reducible refine Kd.C_drew ?_) | exact HR280_0.out)) hb); have n5_ := Aside0.mk (below_step (by repeat (first | (with_reducible first | exact HB.out | apply below_alloc | apply pw_below_drewN | apply below_drew1) | exact HB.out)) hb); clear HO_6; clear HO_69; clear HL280_0; clear HR280_0; clear HB; have HO_6 := n0_; have HO_69 := n1_; have HL280_0 := n2_; have HO286 := n3_; have HR280_0 := n4_; have HB := n5_; clear n0_ n1_ n2_ n3_ n4_ n5_; (try clear hb); (try clear hb2); (try clear hk); (try clear hi); (try clear ho0)) | ((with_reducible refine gate_callee (f := 11) rfl ?_); refine goesL_ (some 88) rfl rfl Try.func11 (by kernel_rfl) rfl #[.slice A280_0 (rd_L2 t271 x71_3).length c280_0] rfl (by (try simp only [List.map_toArray, List.map_cons, List.map_nil]); first | done | rfl | (simp only [List.length_drop, List.length_take]; rfl)) ?_; (with_reducible refine (impl_ScaleOf.calls k3 _ _ (rd_L2 t271 x71_3) t287 true _ ?side1 ?side2 A27.out).mono ?_); (case side1 => repeat (first | exact (by repeat (first | (with_reducible exact HR280_0.out) | (with_reducible refine Kd.C_alloc ?_ _) | (with_reducible refine Kd.C_drewN ?_ _) | (with_reducible refine Kd.C_drew ?_) | exact HR280_0.out)) | (with_reducible refine Kd.C_alloc ?_ _) | (with_reducible refine Kd.C_drewN ?_ _) | (with_reducible refine Kd.C_drew ?_))); (case side2 => exact HC280_0.out); rintro e w45 ⟨rfl, hb⟩; refine ⟨_, rfl, ?_⟩; have n0_ := Aside0.mk (Kd.N_below (by (with_reducible repeat (first | apply Kd.N_alloc | apply Kd.N_drewN | apply Kd.N_drew)); exact HO_6.out) hb); have n1_ := Aside0.mk (Kd.N_below (by (with_reducible repeat (first | apply Kd.N_alloc | apply Kd.N_drewN | apply Kd.N_drew)); exact HO_69.out) hb); have n2_ := Aside0.mk (Kd.V_below (by (with_reducible repeat (first | apply Kd.V_alloc | apply Kd.V_drewN | apply Kd.V_drew)); exact HL280_0.out) hb); have n3_ := Aside0.mk (Kd.R_below (by (with_reducible repeat (first | apply Kd.R_alloc | apply Kd.R_drewN | apply Kd.R_drew)); exact HO286.out) hb); have n4_ := Aside0.mk (Kd.C_below (by repeat (first | (with_reducible exact HR280_0.out) | (with_reducible refine Kd.C_alloc ?_ _) | (with_reducible refine Kd.C_drewN ?_ _) | (with_reducible refine Kd.C_drew ?_) | exact HR280_0.out)) hb); have n5_ := Aside0.mk (below_step (by repeat (first | (with_reducible first | exact HB.out | apply below_alloc | apply pw_below_drewN | apply below_drew1) | exact HB.out)) hb); clear HO_6; clear HO_69; clear HL280_0; clear HO286; clear HR280_0; clear HB; have HO_6 := n0_; have HO_69 := n1_; have HL280_0 := n2_; have HO286 := n3_; have HR280_0 := n4_; have HB := n5_; clear n0_ n1_ n2_ n3_ n4_ n5_; (try clear hb); (try clear hb2); (try clear hk); (try clear hi); obtain ⟨Ao46, co46, eo46⟩ := Kd.R_slice HO286.out; subst eo46) | (go_at_call 12; (with_reducible refine (laws_dSame.calls k3 _ _ t283 _ _ (rd_L2 t271 x71_3) true _ ?side1 ?side2 ?side3 ?side4 A31.out).mono ?_); (case side1 => repeat (first | exact (Kd.R_reads' HO286.out).2.2 | (with_reducible refine Kd.C_alloc ?_ _) | (with_reducible refine Kd.C_drewN ?_ _) | (with_reducible refine Kd.C_drew ?_))); (case side2 => exact (Kd.R_reads' HO286.out).2.1); (case side3 => repeat (first | exact (by repeat (first | (with_reducible exact HR280_0.out) | (with_reducible refine Kd.C_alloc ?_ _) | (with_reducible refine Kd.C_drewN ?_ _) | (with_reducible refine Kd.C_drew ?_) | exact HR280_0.out)) | (with_reducible refine Kd.C_alloc ?_ _) | (with_reducible refine Kd.C_drewN ?_ _) | (with_reducible refine Kd.C_drew ?_))); (case side4 => exact HC280_0.out); rintro e w' ⟨rfl, ⟨nd, rfl⟩⟩; have p290 : 0 ≤ (0 : Int) := (by omega); have q290 : 0 < ((rd_L2 t271 x71_3).length : Int) := of_decide_eq_true (by first | (with_reducible assumption) | assumption); obtain ⟨ad290, e290, hx290_0⟩ := Kd.at_int (by repeat (first | (with_reducible exact HR280_0.out) | (with_reducible refine Kd.C_alloc ?_ _) | (with_reducible refine Kd.C_drewN ?_ _) | (with_reducible refine Kd.C_drew ?_) | exact HR280_0.out)) 0 p290 q290; cases e290; have qi290 : (0 < (rd_L2 t271 x71_3).length) = True := eq_true (by omega); (try rw [show ((0 : Int)).toNat = 0 from rfl] at hx290_0); (try rw [Addr.add_zero'] at hx290_0); replace p290 := eq_true p290; replace q290 := eq_true q290; have p291 : 0 ≤ ((ji38) : Int) := of_decide_eq_true (by first | (with_reducible assumption) | assumption); have q291 : (ji38) < (t271.length : Int) := of_decide_eq_true (by first | (with_reducible assumption) | assumption); obtain ⟨ad291, A291_0, c291_0, e291, hx291_0, hl291_0, hi291_0⟩ := at_L2 (Kd.N_reads' HO_6.out).2.2 (ji38) p291 q291; obtain rfl : ad280 = ad291 := (by injection e291); obtain ⟨ce291, hce291, hMe291, hcc291⟩ := Kd.N_get HO_6.out [] (ji38) p291 (by first | exact q291 | exact of_decide_eq_true (by first | (with_reducible assumption) | assumption) | (have e_ := (Kd.N_reads' HO_6.out).1; omega)); obtain ⟨ua291_0, uc291_0, rfl, ul291_0, ge291_0⟩ := Kd.FK_slice_open hMe291; have hv291_0 := hcc291 0 _ rfl; rw [Nat.add_zero, show ((Kd.slice 3 (Kd.int .i64))).sz = 1 from rfl, Nat.mul_one] at hv291_0; replace hv291_0 := Option.some.inj (hv291_0.symm.trans hx291_0); injection hv291_0 with hva_ hvn_ hvc_; rw [hva_] at ge291_0; rw [hvc_] at ul291_0; have HL291_0 := Aside0.mk (show Kd.V (Kd.int .i64) 3 _ w.heap.size _ _ (rd_L2 t271 (ji38)) from Kd.V_mk ul291_0 ge291_0); clear hva_ hvn_ hvc_ ge291_0 ul291_0; clear hcc291 hce291; have HR291_0 := Aside0.mk hi291_0; have HC291_0 := Aside0.mk hl291_0; clear hi291_0 hl291_0; replace p291 := eq_true p291; replace q291 := eq_true q291) | (go_at_call 13; (with_reducible refine (laws_dLess.calls k3 _ _ (rd_L2 t271 (ji38)) _ _ (rd_L2 t271 x71_3) true _ ?side1 ?side2 ?side3 ?side4 A41.out).mono ?_); (case side1 => repeat (first | exact (by repeat (first | (with_reducible exact HR291_0.out) | (with_reducible refine Kd.C_alloc ?_ _) | (with_reducible refine Kd.C_drewN ?_ _) | (with_reducible refine Kd.C_drew ?_) | exact HR291_0.out)) | (with_reducible refine Kd.C_alloc ?_ _) | (with_reducible refine Kd.C_drewN ?_ _) | (with_reducible refine Kd.C_drew ?_))); (case side2 => exact HC291_0.out); (case side3 => repeat (first | exact (by repeat (first | (with_reducible exact HR280_0.out) | (with_reducible refine Kd.C_alloc ?_ _) | (with_reducible refine Kd.C_drewN ?_ _) | (with_reducible refine Kd.C_drew ?_) | exact HR280_0.out)) | (with_reducible refine Kd.C_alloc ?_ _) | (with_reducible refine Kd.C_drewN ?_ _) | (with_reducible refine Kd.C_drew ?_))); (case side4 => exact HC280_0.out); rintro e w' ⟨rfl, ⟨nd, rfl⟩⟩))
                                                  go_roundg k3
                                                  case measure => have := HJ7.out; have := HJ16.out; have := HK3.out; omega
                                                  case rel => exact ⟨(wrap64 (x71_3 + 1)), (by first | rfl | (simp; done) | (simp [*]; done)), H', ⟨by have := HJ7.out; have := HJ16.out; have := HK3.out; omega⟩, ⟨by (with_reducible repeat (first | apply Kd.N_alloc | apply Kd.N_drewN | apply Kd.N_drew)); exact Kd.N_mono HO_6.out (fun _ hk => trivial)⟩, ⟨by (with_reducible repeat (first | apply Kd.N_alloc | apply Kd.N_drewN | apply Kd.N_drew)); exact Kd.N_mono HO_69.out (fun _ hk => trivial)⟩, ⟨by repeat (first | (with_reducible first | exact HB.out | apply below_alloc | apply pw_below_drewN | apply below_drew1) | exact HB.out)⟩⟩
                                                · replace c42 := Bool.eq_false_iff.mpr c42
                                                  subst c42
                                                  have H1 : (some false) = some true := by rw [if_neg (show ¬ (false = true) by decide)] at H; exact H
                                                  clear H
                                                  have H := H1
                                                  clear H1
                                                  exact absurd (Option.some.inj H) (by decide)
                                              · rw [if_neg c40] at H
                                                exact absurd H (by simp)
                                            · rw [if_neg c39] at H
                                              exact absurd H (by simp)
                                          · rw [if_neg c37] at H
                                            have c37b0 : decide (0 < x71_3) = false := decide_eq_false c37
                                            clear c37
                                            have H' := Aside0.mk H
                                            clear H
                                            have p280 : 0 ≤ (x71_3 : Int) := of_decide_eq_true (by first | (with_reducible assumption) | assumption)
                                            have q280 : x71_3 < (t271.length : Int) := of_decide_eq_true (by first | (with_reducible assumption) | assumption)
                                            obtain ⟨ad280, A280_0, c280_0, e280, hx280_0, hl280_0, hi280_0⟩ := at_L2 (Kd.N_reads' HO_69.out).2.2 x71_3 p280 q280
                                            cases e280
                                            obtain ⟨ce280, hce280, hMe280, hcc280⟩ := Kd.N_get HO_69.out [] x71_3 p280 (by first | exact q280 | exact of_decide_eq_true (by first | (with_reducible assumption) | assumption) | (have e_ := (Kd.N_reads' HO_69.out).1; omega))
                                            obtain ⟨ua280_0, uc280_0, rfl, ul280_0, ge280_0⟩ := Kd.FK_slice_open hMe280
                                            have hv280_0 := hcc280 0 _ rfl
                                            rw [Nat.add_zero, show ((Kd.slice 3 (Kd.int .i64))).sz = 1 from rfl, Nat.mul_one] at hv280_0
                                            replace hv280_0 := Option.some.inj (hv280_0.symm.trans hx280_0)
                                            injection hv280_0 with hva_ hvn_ hvc_
                                            rw [hva_] at ge280_0
                                            rw [hvc_] at ul280_0
                                            have HL280_0 := Aside0.mk (show Kd.V (Kd.int .i64) 3 _ w.heap.size _ _ (rd_L2 t271 x71_3) from Kd.V_mk ul280_0 ge280_0)
                                            clear hva_ hvn_ hvc_ ge280_0 ul280_0
                                            clear hcc280 hce280
                                            have HR280_0 := Aside0.mk hi280_0
                                            have HC280_0 := Aside0.mk hl280_0
                                            clear hi280_0 hl280_0
                                            replace p280 := eq_true p280
                                            replace q280 := eq_true q280
                                            go_wp2_with (first | ((with_reducible refine gate_callee (f := 9) rfl ?_); refine goesL_ (some 78) rfl rfl Try.func9 (by kernel_rfl) rfl #[.slice A280_0 (rd_L2 t271 x71_3).length c280_0] rfl (by (try simp only [List.map_toArray, List.map_cons, List.map_nil]); first | done | rfl | (simp only [List.length_drop, List.length_take]; rfl)) ?_; (with_reducible refine (impl_IsRoot.calls k3 _ _ (rd_L2 t271 x71_3) true true _ ?side1 ?side2 A25.out).mono ?_); (case side1 => repeat (first | exact (by repeat (first | (with_reducible exact HR280_0.out) | (with_reducible refine Kd.C_alloc ?_ _) | (with_reducible refine Kd.C_drewN ?_ _) | (with_reducible refine Kd.C_drew ?_) | exact HR280_0.out)) | (with_reducible refine Kd.C_alloc ?_ _) | (with_reducible refine Kd.C_drewN ?_ _) | (with_reducible refine Kd.C_drew ?_))); (case side2 => exact HC280_0.out); rintro e w51 ⟨rfl, hb⟩; refine ⟨_, rfl, ?_⟩; have n0_ := Aside0.mk (Kd.N_below (by (with_reducible repeat (first | apply Kd.N_alloc | apply Kd.N_drewN | apply Kd.N_drew)); exact HO_6.out) hb); have n1_ := Aside0.mk (Kd.N_below (by (with_reducible repeat (first | apply Kd.N_alloc | apply Kd.N_drewN | apply Kd.N_drew)); exact HO_69.out) hb); have n2_ := Aside0.mk (Kd.V_below (by (with_reducible repeat (first | apply Kd.V_alloc | apply Kd.V_drewN | apply Kd.V_drew)); exact HL280_0.out) hb); have n3_ := Aside0.mk (Kd.C_below (by repeat (first | (with_reducible exact HR280_0.out) | (with_reducible refine Kd.C_alloc ?_ _) | (with_reducible refine Kd.C_drewN ?_ _) | (with_reducible refine Kd.C_drew ?_) | exact HR280_0.out)) hb); have n4_ := Aside0.mk (below_step (by repeat (first | (with_reducible first | exact HB.out | apply below_alloc | apply pw_below_drewN | apply below_drew1) | exact HB.out)) hb); clear HO_6; clear HO_69; clear HL280_0; clear HR280_0; clear HB; have HO_6 := n0_; have HO_69 := n1_; have HL280_0 := n2_; have HR280_0 := n3_; have HB := n4_; clear n0_ n1_ n2_ n3_ n4_; (try clear hb); (try clear hb2); (try clear hk); (try clear hi)) | ((with_reducible refine gate_callee (f := 10) rfl ?_); refine goesL_ (some 83) rfl rfl Try.func10 (by kernel_rfl) rfl #[.slice A280_0 (rd_L2 t271 x71_3).length c280_0] rfl (by (try simp only [List.map_toArray, List.map_cons, List.map_nil]); first | done | rfl | (simp only [List.length_drop, List.length_take]; rfl)) ?_; (with_reducible refine (impl_RootQuad.calls k3 _ _ (rd_L2 t271 x71_3) t283 true _ ?side1 ?side2 A26.out).mono ?_); (case side1 => repeat (first | exact (by repeat (first | (with_reducible exact HR280_0.out) | (with_reducible refine Kd.C_alloc ?_ _) | (with_reducible refine Kd.C_drewN ?_ _) | (with_reducible refine Kd.C_drew ?_) | exact HR280_0.out)) | (with_reducible refine Kd.C_alloc ?_ _) | (with_reducible refine Kd.C_drewN ?_ _) | (with_reducible refine Kd.C_drew ?_))); (case side2 => exact HC280_0.out); rintro e w52 ⟨v285, rfl, ho0, hb⟩; refine ⟨_, rfl, ?_⟩; have n0_ := Aside0.mk (Kd.N_elder' (by (with_reducible repeat (first | apply Kd.N_alloc | apply Kd.N_drewN | apply Kd.N_drew)); exact HO_6.out) (Kd.R_base ho0) hb); have n1_ := Aside0.mk (Kd.N_elder' (by (with_reducible repeat (first | apply Kd.N_alloc | apply Kd.N_drewN | apply Kd.N_drew)); exact HO_69.out) (Kd.R_base ho0) hb); have n2_ := Aside0.mk (Kd.V_elder' (by (with_reducible repeat (first | apply Kd.V_alloc | apply Kd.V_drewN | apply Kd.V_drew)); exact HL280_0.out) (Kd.R_base ho0) hb); have n3_ := Aside0.mk (Kd.R_lower ho0 (below_size (by repeat (first | (with_reducible first | exact HB.out | apply below_alloc | apply pw_below_drewN | apply below_drew1) | exact HB.out)))); have n4_ := Aside0.mk (Kd.C_below (by repeat (first | (with_reducible exact HR280_0.out) | (with_reducible refine Kd.C_alloc ?_ _) | (with_reducible refine Kd.C_drewN ?_ _) | (with_reducible refine Kd.C_drew ?_) | exact HR280_0.out)) hb); have n5_ := Aside0.mk (below_step (by repeat (first | (with_reducible first | exact HB.out | apply below_alloc | apply pw_below_drewN | apply below_drew1) | exact HB.out)) hb); clear HO_6; clear HO_69; clear HL280_0; clear HR280_0; clear HB; have HO_6 := n0_; have HO_69 := n1_; have HL280_0 := n2_; have HO286 := n3_; have HR280_0 := n4_; have HB := n5_; clear n0_ n1_ n2_ n3_ n4_ n5_; (try clear hb); (try clear hb2); (try clear hk); (try clear hi); (try clear ho0)) | ((with_reducible refine gate_callee (f := 11) rfl ?_); refine goesL_ (some 88) rfl rfl Try.func11 (by kernel_rfl) rfl #[.slice A280_0 (rd_L2 t271 x71_3).length c280_0] rfl (by (try simp only [List.map_toArray, List.map_cons, List.map_nil]); first | done | rfl | (simp only [List.length_drop, List.length_take]; rfl)) ?_; (with_reducible refine (impl_ScaleOf.calls k3 _ _ (rd_L2 t271 x71_3) t287 true _ ?side1 ?side2 A27.out).mono ?_); (case side1 => repeat (first | exact (by repeat (first | (with_reducible exact HR280_0.out) | (with_reducible refine Kd.C_alloc ?_ _) | (with_reducible refine Kd.C_drewN ?_ _) | (with_reducible refine Kd.C_drew ?_) | exact HR280_0.out)) | (with_reducible refine Kd.C_alloc ?_ _) | (with_reducible refine Kd.C_drewN ?_ _) | (with_reducible refine Kd.C_drew ?_))); (case side2 => exact HC280_0.out); rintro e w53 ⟨rfl, hb⟩; refine ⟨_, rfl, ?_⟩; have n0_ := Aside0.mk (Kd.N_below (by (with_reducible repeat (first | apply Kd.N_alloc | apply Kd.N_drewN | apply Kd.N_drew)); exact HO_6.out) hb); have n1_ := Aside0.mk (Kd.N_below (by (with_reducible repeat (first | apply Kd.N_alloc | apply Kd.N_drewN | apply Kd.N_drew)); exact HO_69.out) hb); have n2_ := Aside0.mk (Kd.V_below (by (with_reducible repeat (first | apply Kd.V_alloc | apply Kd.V_drewN | apply Kd.V_drew)); exact HL280_0.out) hb); have n3_ := Aside0.mk (Kd.R_below (by (with_reducible repeat (first | apply Kd.R_alloc | apply Kd.R_drewN | apply Kd.R_drew)); exact HO286.out) hb); have n4_ := Aside0.mk (Kd.C_below (by repeat (first | (with_reducible exact HR280_0.out) | (with_reducible refine Kd.C_alloc ?_ _) | (with_reducible refine Kd.C_drewN ?_ _) | (with_reducible refine Kd.C_drew ?_) | exact HR280_0.out)) hb); have n5_ := Aside0.mk (below_step (by repeat (first | (with_reducible first | exact HB.out | apply below_alloc | apply pw_below_drewN | apply below_drew1) | exact HB.out)) hb); clear HO_6; clear HO_69; clear HL280_0; clear HO286; clear HR280_0; clear HB; have HO_6 := n0_; have HO_69 := n1_; have HL280_0 := n2_; have HO286 := n3_; have HR280_0 := n4_; have HB := n5_; clear n0_ n1_ n2_ n3_ n4_ n5_; (try clear hb); (try clear hb2); (try clear hk); (try clear hi); obtain ⟨Ao54, co54, eo54⟩ := Kd.R_slice HO286.out; subst eo54) | (go_at_call 12; (with_reducible refine (laws_dSame.calls k3 _ _ t283 _ _ (rd_L2 t271 x71_3) true _ ?side1 ?side2 ?side3 ?side4 A31.out).mono ?_); (case side1 => repeat (first | exact (Kd.R_reads' HO286.out).2.2 | (with_reducible refine Kd.C_alloc ?_ _) | (with_reducible refine Kd.C_drewN ?_ _) | (with_reducible refine Kd.C_drew ?_))); (case side2 => exact (Kd.R_reads' HO286.out).2.1); (case side3 => repeat (first | exact (by repeat (first | (with_reducible exact HR280_0.out) | (with_reducible refine Kd.C_alloc ?_ _) | (with_reducible refine Kd.C_drewN ?_ _) | (with_reducible refine Kd.C_drew ?_) | exact HR280_0.out)) | (with_reducible refine Kd.C_alloc ?_ _) | (with_reducible refine Kd.C_drewN ?_ _) | (with_reducible refine Kd.C_drew ?_))); (case side4 => exact HC280_0.out); rintro e w' ⟨rfl, ⟨nd, rfl⟩⟩; have p290 : 0 ≤ (0 : Int) := (by omega); have q290 : 0 < ((rd_L2 t271 x71_3).length : Int) := of_decide_eq_true (by first | (with_reducible assumption) | assumption); obtain ⟨ad290, e290, hx290_0⟩ := Kd.at_int (by repeat (first | (with_reducible exact HR280_0.out) | (with_reducible refine Kd.C_alloc ?_ _) | (with_reducible refine Kd.C_drewN ?_ _) | (with_reducible refine Kd.C_drew ?_) | exact HR280_0.out)) 0 p290 q290; cases e290; have qi290 : (0 < (rd_L2 t271 x71_3).length) = True := eq_true (by omega); (try rw [show ((0 : Int)).toNat = 0 from rfl] at hx290_0); (try rw [Addr.add_zero'] at hx290_0); replace p290 := eq_true p290; replace q290 := eq_true q290))
                                            go_roundg k3
                                            case measure => have := HJ7.out; have := HJ16.out; have := HK3.out; omega
                                            case rel => exact ⟨(wrap64 (x71_3 + 1)), (by first | rfl | (simp; done) | (simp [*]; done)), H', ⟨by have := HJ7.out; have := HJ16.out; have := HK3.out; omega⟩, ⟨by (with_reducible repeat (first | apply Kd.N_alloc | apply Kd.N_drewN | apply Kd.N_drew)); exact Kd.N_mono HO_6.out (fun _ hk => trivial)⟩, ⟨by (with_reducible repeat (first | apply Kd.N_alloc | apply Kd.N_drewN | apply Kd.N_drew)); exact Kd.N_mono HO_69.out (fun _ hk => trivial)⟩, ⟨by repeat (first | (with_reducible first | exact HB.out | apply below_alloc | apply pw_below_drewN | apply below_drew1) | exact HB.out)⟩⟩
                                        · rw [if_neg c36] at H
                                          have c36b0 : ((rd (rd_L2 t271 x71_3) 0) == (wrap64 (-t270))) = false := beq_eq_false_iff_ne.mpr c36
                                          have c36b1 : ((rd (rd_L2 t271 x71_3) 0) != (wrap64 (-t270))) = true := bne_iff_ne.mpr c36
                                          exact absurd (Option.some.inj H) (by decide)
                                      · rw [if_neg c35] at H
                                        exact absurd H (by simp)
                                    · rw [if_neg c34] at H
                                      have c34b0 : (t287 == 1) = false := beq_eq_false_iff_ne.mpr c34
                                      have c34b1 : (t287 != 1) = true := bne_iff_ne.mpr c34
                                      exact absurd (Option.some.inj H) (by decide)
                                  · replace c33 := Bool.eq_false_iff.mpr c33
                                    subst c33
                                    have H1 : (some false) = some true := by rw [if_neg (show ¬ (false = true) by decide)] at H; exact H
                                    clear H
                                    have H := H1
                                    clear H1
                                    exact absurd (Option.some.inj H) (by decide)
                                · replace c32 := Bool.eq_false_iff.mpr c32
                                  subst c32
                                  have H1 : (some false) = some true := by rw [if_neg (show ¬ (false = true) by decide)] at H; exact H
                                  clear H
                                  have H := H1
                                  clear H1
                                  exact absurd (Option.some.inj H) (by decide)
                              · replace c30 := Bool.eq_false_iff.mpr c30
                                subst c30
                                have H1 : (some false) = some true := by rw [if_neg (show ¬ (false = true) by decide)] at H; exact H
                                clear H
                                have H := H1
                                clear H1
                                exact absurd (Option.some.inj H) (by decide)
                            · replace c29 := Bool.eq_false_iff.mpr c29
                              subst c29
                              have H1 : (some false) = some true := by rw [if_neg (show ¬ (false = true) by decide)] at H; exact H
                              clear H
                              have H := H1
                              clear H1
                              exact absurd (Option.some.inj H) (by decide)
                          · replace c28 := Bool.eq_false_iff.mpr c28
                            subst c28
                            have H1 : (some false) = some true := by rw [if_neg (show ¬ (false = true) by decide)] at H; exact H
                            clear H
                            have H := H1
                            clear H1
                            exact absurd (Option.some.inj H) (by decide)
                        · rw [if_neg c24] at H
                          exact absurd H (by simp)
                      · rw [if_neg c23] at H
                        exact absurd H (by simp)
                    · rw [if_neg c22] at H
                      have c22b0 : decide (x71_3 < (t271.length : Int)) = false := decide_eq_false c22
                      clear c22
                      have HC80 := Aside0.mk H
                      clear H
                      go_upto_region 19 with (fail)
                      go_cut [142] (fun v142 wc => ∃ (kq : Nat) (x142_79 : Bool), v142 = .bool x142_79 ∧ Aside0 (laws_FnRootQuads.j3 kq l1 t270 t271 x142_79 = some true) ∧ Aside0 (kq ≤ k3) ∧ Aside0 (Kd.N (Kd.slice 3 (Kd.int .i64)) 29 wc w.heap.size (fun _ => True) (.slice Ao21 t271.length co21) t271) ∧ Aside0 (Below w.heap.size w wc))
                      case first => as_aux_lemma =>
                        have H := HC80.out
                        clear HC80
                        by_cases c81 : t272 = true
                        · subst c81
                          have H1 : (laws_FnRootQuads.j3 k3 l1 t270 t271 (decide (t270 ≤ 6))) = some true := by rw [if_pos rfl] at H; exact H
                          clear H
                          have H := H1
                          clear H1
                          have H' := Aside0.mk H
                          clear H
                          go_wp2
                          go_meet
                          case rel => exact ⟨_, (decide (t270 ≤ 6)), (by first | rfl | (simp; done) | (simp [*]; done)), H', ⟨by have := HJ7.out; have := HJ16.out; have := HK3.out; first | omega | exact Nat.le_refl _⟩, ⟨by (with_reducible repeat (first | apply Kd.N_alloc | apply Kd.N_drewN | apply Kd.N_drew)); exact HO_6.out⟩, ⟨by repeat (first | (with_reducible first | exact HB.out | apply below_alloc | apply pw_below_drewN | apply below_drew1) | exact HB.out)⟩⟩
                        · replace c81 := Bool.eq_false_iff.mpr c81
                          subst c81
                          have H1 : (laws_FnRootQuads.j3 k3 l1 t270 t271 false) = some true := by rw [if_neg (show ¬ (false = true) by decide)] at H; exact H
                          clear H
                          have H := H1
                          clear H1
                          have H' := Aside0.mk H
                          clear H
                          go_wp2
                          go_meet
                          case rel => exact ⟨_, (false), (by first | rfl | (simp; done) | (simp [*]; done)), H', ⟨by have := HJ7.out; have := HJ16.out; have := HK3.out; first | omega | exact Nat.le_refl _⟩, ⟨by (with_reducible repeat (first | apply Kd.N_alloc | apply Kd.N_drewN | apply Kd.N_drew)); exact HO_6.out⟩, ⟨by repeat (first | (with_reducible first | exact HB.out | apply below_alloc | apply pw_below_drewN | apply below_drew1) | exact HB.out)⟩⟩
                      case rest =>
                        clear HC80
                        try clear c1
                        try clear c2
                        try clear p2
                        try clear q2
                        try clear hx2
                        try clear qi2
                        try clear c3
                        try clear c4
                        try clear c5
                        try clear c6
                        try clear p6
                        try clear c7
                        try clear c8
                        try clear c9
                        try clear c10
                        try clear c11
                        try clear c12
                        try clear c12b0
                        try clear c12b1
                        try clear c12b2
                        try clear c16
                        try clear c18
                        try clear c20
                        try clear c22
                        try clear c22b0
                        try clear c23
                        try clear c23b0
                        try clear c24
                        try clear c24b0
                        try clear c28
                        try clear p28
                        try clear q28
                        try clear hx28
                        try clear c29
                        try clear p29
                        try clear q29
                        try clear hx29
                        try clear qi29
                        try clear c30
                        try clear c32
                        try clear c33
                        try clear c34
                        try clear c34b0
                        try clear c34b1
                        try clear c35
                        try clear c35b0
                        try clear c35b1
                        try clear c36
                        try clear c36b0
                        try clear c36b1
                        try clear c37
                        try clear c37b0
                        try clear c39
                        try clear c39b0
                        try clear c40
                        try clear c40b0
                        try clear c42
                        try clear p64
                        try clear c81
                        try clear hx280_0
                        try clear hx290_0
                        try clear hx291_0
                        try clear p2
                        try clear p280
                        try clear p290
                        try clear p291
                        try clear q280
                        try clear q290
                        try clear q291
                        obtain ⟨kq, x142_79, rfl, HA, HJ79, HO_6, HB⟩ := hcut
                        cases kq with
                        | zero => exact absurd HA.out (by simp [laws_FnRootQuads.j3])
                        | succ kj79 =>
                          have H := HA.out
                          clear HA
                          simp only [laws_FnRootQuads.j3] at H
                          have HC82 := Aside0.mk H
                          clear H
                          go_upto_if 142 with (fail)
                          go_cut [] (fun wc => ∃ (kq : Nat), Aside0 (laws_FnRootQuads.j8 kq l1 = some true) ∧ Aside0 (kq ≤ kj79) ∧ Aside0 (Below w.heap.size w wc))
                          case first => as_aux_lemma =>
                            have H := HC82.out
                            clear HC82
                            by_cases c83 : x142_79 = true
                            · subst c83
                              have H1 : (laws_FnRootQuads.l1 kj79 l1 t270 t271 0 1) = some true := by rw [if_pos rfl] at H; exact H
                              clear H
                              have H := H1
                              clear H1
                              have H' := Aside0.mk H
                              clear H
                              go_wp2
                              go_loopg [18, 19] kj79 (fun kq v18 v19 w' => ∃ (x18_5 : Int) (x19_5 : Int), v18 = .int .i64 x18_5 ∧ v19 = .int .i64 x19_5 ∧ Aside0 (laws_FnRootQuads.l1 kq l1 t270 t271 x18_5 x19_5 = some true) ∧ Aside0 (kq ≤ kj79) ∧ Aside0 (Kd.N (Kd.slice 3 (Kd.int .i64)) 29 w' w.heap.size (fun _ => True) (.slice Ao21 t271.length co21) t271) ∧ Aside0 (Below w.heap.size w w'))
                              case atStart => exact ⟨(0), (1), (by first | rfl | (simp; done) | (simp [*]; done)), (by first | rfl | (simp; done) | (simp [*]; done)), H', ⟨Nat.le_refl _⟩, ⟨by (with_reducible repeat (first | apply Kd.N_alloc | apply Kd.N_drewN | apply Kd.N_drew)); exact HO_6.out⟩, ⟨by repeat (first | (with_reducible first | exact HB.out | apply below_alloc | apply pw_below_drewN | apply below_drew1) | exact HB.out)⟩⟩
                              case round =>
                                clear H'
                                try clear c1
                                try clear c2
                                try clear p2
                                try clear q2
                                try clear hx2
                                try clear qi2
                                try clear c3
                                try clear c4
                                try clear c5
                                try clear c6
                                try clear p6
                                try clear c7
                                try clear c8
                                try clear c9
                                try clear c10
                                try clear c11
                                try clear c12
                                try clear c12b0
                                try clear c12b1
                                try clear c12b2
                                try clear c16
                                try clear c18
                                try clear c20
                                try clear c22
                                try clear c22b0
                                try clear c23
                                try clear c23b0
                                try clear c24
                                try clear c24b0
                                try clear c28
                                try clear p28
                                try clear q28
                                try clear hx28
                                try clear c29
                                try clear p29
                                try clear q29
                                try clear hx29
                                try clear qi29
                                try clear c30
                                try clear c32
                                try clear c33
                                try clear c34
                                try clear c34b0
                                try clear c34b1
                                try clear c35
                                try clear c35b0
                                try clear c35b1
                                try clear c36
                                try clear c36b0
                                try clear c36b1
                                try clear c37
                                try clear c37b0
                                try clear c39
                                try clear c39b0
                                try clear c40
                                try clear c40b0
                                try clear c42
                                try clear p64
                                try clear c81
                                try clear c83
                                try clear hx280_0
                                try clear hx290_0
                                try clear hx291_0
                                try clear p2
                                try clear p28
                                try clear p280
                                try clear p29
                                try clear p290
                                try clear p291
                                try clear p6
                                try clear p64
                                try clear q2
                                try clear q28
                                try clear q280
                                try clear q29
                                try clear q290
                                try clear q291
                                obtain ⟨x18_5, x19_5, rfl, rfl, HA, HK5, HO_6, HB⟩ := hrel
                                cases gk with
                                | zero => exact absurd HA.out (by simp [laws_FnRootQuads.l1])
                                | succ k5 =>
                                  have H := HA.out
                                  clear HA
                                  simp only [laws_FnRootQuads.l1] at H
                                  by_cases c84 : x19_5 ≤ 60
                                  · rw [if_pos c84] at H
                                    have c84b0 : decide (x19_5 ≤ 60) = true := decide_eq_true c84
                                    clear c84
                                    (first | rw [c84b0] | (simp only [i64_w, i32_w]; rw [c84b0]) | skip)
                                    have H' := Aside0.mk H
                                    clear H
                                    go_wp2
                                    go_loopg [18, 20] k5 (fun kq v18 v20 w' => ∃ (x18_6 : Int) (x20_6 : Int), v18 = .int .i64 x18_6 ∧ v20 = .int .i64 x20_6 ∧ Aside0 (laws_FnRootQuads.l2 kq l1 t270 t271 x18_6 x19_5 x20_6 = some true) ∧ Aside0 (kq ≤ k5) ∧ Aside0 (Kd.N (Kd.slice 3 (Kd.int .i64)) 29 w' w.heap.size (fun _ => True) (.slice Ao21 t271.length co21) t271) ∧ Aside0 (Below w.heap.size w w'))
                                    case atStart => exact ⟨(x18_5), (x19_5), (by first | rfl | (simp; done) | (simp [*]; done)), (by first | rfl | (simp; done) | (simp [*]; done)), H', ⟨Nat.le_refl _⟩, ⟨by (with_reducible repeat (first | apply Kd.N_alloc | apply Kd.N_drewN | apply Kd.N_drew)); exact HO_6.out⟩, ⟨by repeat (first | (with_reducible first | exact HB.out | apply below_alloc | apply pw_below_drewN | apply below_drew1) | exact HB.out)⟩⟩
                                    case round =>
                                      clear H'
                                      try clear c1
                                      try clear c2
                                      try clear p2
                                      try clear q2
                                      try clear hx2
                                      try clear qi2
                                      try clear c3
                                      try clear c4
                                      try clear c5
                                      try clear c6
                                      try clear p6
                                      try clear c7
                                      try clear c8
                                      try clear c9
                                      try clear c10
                                      try clear c11
                                      try clear c12
                                      try clear c12b0
                                      try clear c12b1
                                      try clear c12b2
                                      try clear c16
                                      try clear c18
                                      try clear c20
                                      try clear c22
                                      try clear c22b0
                                      try clear c23
                                      try clear c23b0
                                      try clear c24
                                      try clear c24b0
                                      try clear c28
                                      try clear p28
                                      try clear q28
                                      try clear hx28
                                      try clear c29
                                      try clear p29
                                      try clear q29
                                      try clear hx29
                                      try clear qi29
                                      try clear c30
                                      try clear c32
                                      try clear c33
                                      try clear c34
                                      try clear c34b0
                                      try clear c34b1
                                      try clear c35
                                      try clear c35b0
                                      try clear c35b1
                                      try clear c36
                                      try clear c36b0
                                      try clear c36b1
                                      try clear c37
                                      try clear c37b0
                                      try clear c39
                                      try clear c39b0
                                      try clear c40
                                      try clear c40b0
                                      try clear c42
                                      try clear p64
                                      try clear c81
                                      try clear c83
                                      try clear c84
                                      try clear c84b0
                                      try clear hx280_0
                                      try clear hx290_0
                                      try clear hx291_0
                                      try clear p2
                                      try clear p28
                                      try clear p280
                                      try clear p29
                                      try clear p290
                                      try clear p291
                                      try clear p6
                                      try clear p64
                                      try clear q2
                                      try clear q28
                                      try clear q280
                                      try clear q29
                                      try clear q290
                                      try clear q291
                                      obtain ⟨x18_6, x20_6, rfl, rfl, HA, HK6, HO_6, HB⟩ := hrel
                                      cases gk with
                                      | zero => exact absurd HA.out (by simp [laws_FnRootQuads.l2])
                                      | succ k6 =>
                                        have H := HA.out
                                        clear HA
                                        simp only [laws_FnRootQuads.l2] at H
                                        by_cases c85 : x20_6 ≤ 60
                                        · rw [if_pos c85] at H
                                          have c85b0 : decide (x20_6 ≤ 60) = true := decide_eq_true c85
                                          clear c85
                                          have H' := Aside0.mk H
                                          clear H
                                          go_wp2
                                          go_loopg [18, 21] k6 (fun kq v18 v21 w' => ∃ (x18_7 : Int) (x21_7 : Int), v18 = .int .i64 x18_7 ∧ v21 = .int .i64 x21_7 ∧ Aside0 (laws_FnRootQuads.l3 kq l1 t270 t271 x18_7 x19_5 x20_6 x21_7 = some true) ∧ Aside0 (kq ≤ k6) ∧ Aside0 (Kd.N (Kd.slice 3 (Kd.int .i64)) 29 w' w.heap.size (fun _ => True) (.slice Ao21 t271.length co21) t271) ∧ Aside0 (Below w.heap.size w w'))
                                          case atStart => exact ⟨(x18_6), (x20_6), (by first | rfl | (simp; done) | (simp [*]; done)), (by first | rfl | (simp; done) | (simp [*]; done)), H', ⟨Nat.le_refl _⟩, ⟨by (with_reducible repeat (first | apply Kd.N_alloc | apply Kd.N_drewN | apply Kd.N_drew)); exact HO_6.out⟩, ⟨by repeat (first | (with_reducible first | exact HB.out | apply below_alloc | apply pw_below_drewN | apply below_drew1) | exact HB.out)⟩⟩
                                          case round =>
                                            clear H'
                                            try clear c1
                                            try clear c2
                                            try clear p2
                                            try clear q2
                                            try clear hx2
                                            try clear qi2
                                            try clear c3
                                            try clear c4
                                            try clear c5
                                            try clear c6
                                            try clear p6
                                            try clear c7
                                            try clear c8
                                            try clear c9
                                            try clear c10
                                            try clear c11
                                            try clear c12
                                            try clear c12b0
                                            try clear c12b1
                                            try clear c12b2
                                            try clear c16
                                            try clear c18
                                            try clear c20
                                            try clear c22
                                            try clear c22b0
                                            try clear c23
                                            try clear c23b0
                                            try clear c24
                                            try clear c24b0
                                            try clear c28
                                            try clear p28
                                            try clear q28
                                            try clear hx28
                                            try clear c29
                                            try clear p29
                                            try clear q29
                                            try clear hx29
                                            try clear qi29
                                            try clear c30
                                            try clear c32
                                            try clear c33
                                            try clear c34
                                            try clear c34b0
                                            try clear c34b1
                                            try clear c35
                                            try clear c35b0
                                            try clear c35b1
                                            try clear c36
                                            try clear c36b0
                                            try clear c36b1
                                            try clear c37
                                            try clear c37b0
                                            try clear c39
                                            try clear c39b0
                                            try clear c40
                                            try clear c40b0
                                            try clear c42
                                            try clear p64
                                            try clear c81
                                            try clear c83
                                            try clear c84
                                            try clear c84b0
                                            try clear c85
                                            try clear c85b0
                                            try clear hx280_0
                                            try clear hx290_0
                                            try clear hx291_0
                                            try clear p2
                                            try clear p28
                                            try clear p280
                                            try clear p29
                                            try clear p290
                                            try clear p291
                                            try clear p6
                                            try clear p64
                                            try clear q2
                                            try clear q28
                                            try clear q280
                                            try clear q29
                                            try clear q290
                                            try clear q291
                                            obtain ⟨x18_7, x21_7, rfl, rfl, HA, HK7, HO_6, HB⟩ := hrel
                                            cases gk with
                                            | zero => exact absurd HA.out (by simp [laws_FnRootQuads.l3])
                                            | succ k7 =>
                                              have H := HA.out
                                              clear HA
                                              simp only [laws_FnRootQuads.l3] at H
                                              by_cases c86 : x21_7 ≤ 60
                                              · rw [if_pos c86] at H
                                                have c86b0 : decide (x21_7 ≤ 60) = true := decide_eq_true c86
                                                clear c86
                                                obtain ⟨y293, hy293⟩ : ∃ y_ : List Int, y_ = (([wrap64 (-t270), x19_5, x20_6, x21_7] : List Int)) := ⟨_, rfl⟩
                                                replace H : ((impl_IsRoot.f k7 y293).bind fun bt296 => ((impl_ScaleOf.f k7 y293).bind fun bt298 => (if bt296.2 = true then (if bt298.2 = true then (if bt296.1 = true then (if bt298.1 = 1 then (laws_FnRootQuads.l3 k7 l1 t270 t271 (wrap64 (x18_7 + 1)) x19_5 x20_6 (wrap64 (x21_7 + 1))) else (laws_FnRootQuads.l3 k7 l1 t270 t271 x18_7 x19_5 x20_6 (wrap64 (x21_7 + 1)))) else (laws_FnRootQuads.l3 k7 l1 t270 t271 x18_7 x19_5 x20_6 (wrap64 (x21_7 + 1)))) else (laws_FnRootQuads.l3 k7 l1 t270 t271 x18_7 x19_5 x20_6 (wrap64 (x21_7 + 1)))) else (laws_FnRootQuads.l3 k7 l1 t270 t271 x18_7 x19_5 x20_6 (wrap64 (x21_7 + 1)))))) = some true := by first | (rw [hy293]; with_reducible exact H) | (have H2_ := (Option.bind_some _ _).symm.trans H; rw [hy293]; with_reducible exact H2_) | (have H2_ := (Option.bind_some _ _).symm.trans H; with_reducible exact H2_) | with_reducible exact H | (rw [hy293]; exact H) | exact H
                                                have Ny293 := Aside0.mk hy293
                                                clear hy293
                                                replace H := Option.bind_eq_some_iff.mp H
                                                obtain ⟨⟨t296, t297⟩, A870, H⟩ := H
                                                replace H : ((impl_ScaleOf.f k7 y293).bind fun bt298 => (if t297 = true then (if bt298.2 = true then (if t296 = true then (if bt298.1 = 1 then (laws_FnRootQuads.l3 k7 l1 t270 t271 (wrap64 (x18_7 + 1)) x19_5 x20_6 (wrap64 (x21_7 + 1))) else (laws_FnRootQuads.l3 k7 l1 t270 t271 x18_7 x19_5 x20_6 (wrap64 (x21_7 + 1)))) else (laws_FnRootQuads.l3 k7 l1 t270 t271 x18_7 x19_5 x20_6 (wrap64 (x21_7 + 1)))) else (laws_FnRootQuads.l3 k7 l1 t270 t271 x18_7 x19_5 x20_6 (wrap64 (x21_7 + 1)))) else (laws_FnRootQuads.l3 k7 l1 t270 t271 x18_7 x19_5 x20_6 (wrap64 (x21_7 + 1))))) = some true := H
                                                have A87 := Aside0.mk A870
                                                clear A870
                                                replace H := Option.bind_eq_some_iff.mp H
                                                obtain ⟨⟨t298, t299⟩, A880, H⟩ := H
                                                replace H : (if t297 = true then (if t299 = true then (if t296 = true then (if t298 = 1 then (laws_FnRootQuads.l3 k7 l1 t270 t271 (wrap64 (x18_7 + 1)) x19_5 x20_6 (wrap64 (x21_7 + 1))) else (laws_FnRootQuads.l3 k7 l1 t270 t271 x18_7 x19_5 x20_6 (wrap64 (x21_7 + 1)))) else (laws_FnRootQuads.l3 k7 l1 t270 t271 x18_7 x19_5 x20_6 (wrap64 (x21_7 + 1)))) else (laws_FnRootQuads.l3 k7 l1 t270 t271 x18_7 x19_5 x20_6 (wrap64 (x21_7 + 1)))) else (laws_FnRootQuads.l3 k7 l1 t270 t271 x18_7 x19_5 x20_6 (wrap64 (x21_7 + 1)))) = some true := H
                                                have A88 := Aside0.mk A880
                                                clear A880
                                                by_cases c89 : t297 = true
                                                · subst c89
                                                  have H1 : (if t299 = true then (if t296 = true then (if t298 = 1 then (laws_FnRootQuads.l3 k7 l1 t270 t271 (wrap64 (x18_7 + 1)) x19_5 x20_6 (wrap64 (x21_7 + 1))) else (laws_FnRootQuads.l3 k7 l1 t270 t271 x18_7 x19_5 x20_6 (wrap64 (x21_7 + 1)))) else (laws_FnRootQuads.l3 k7 l1 t270 t271 x18_7 x19_5 x20_6 (wrap64 (x21_7 + 1)))) else (laws_FnRootQuads.l3 k7 l1 t270 t271 x18_7 x19_5 x20_6 (wrap64 (x21_7 + 1)))) = some true := by rw [if_pos rfl] at H; exact H
                                                  clear H
                                                  have H := H1
                                                  clear H1
                                                  by_cases c90 : t299 = true
                                                  · subst c90
                                                    have H1 : (if t296 = true then (if t298 = 1 then (laws_FnRootQuads.l3 k7 l1 t270 t271 (wrap64 (x18_7 + 1)) x19_5 x20_6 (wrap64 (x21_7 + 1))) else (laws_FnRootQuads.l3 k7 l1 t270 t271 x18_7 x19_5 x20_6 (wrap64 (x21_7 + 1)))) else (laws_FnRootQuads.l3 k7 l1 t270 t271 x18_7 x19_5 x20_6 (wrap64 (x21_7 + 1)))) = some true := by rw [if_pos rfl] at H; exact H
                                                    clear H
                                                    have H := H1
                                                    clear H1
                                                    by_cases c91 : t296 = true
                                                    · subst c91
                                                      have H1 : (if t298 = 1 then (laws_FnRootQuads.l3 k7 l1 t270 t271 (wrap64 (x18_7 + 1)) x19_5 x20_6 (wrap64 (x21_7 + 1))) else (laws_FnRootQuads.l3 k7 l1 t270 t271 x18_7 x19_5 x20_6 (wrap64 (x21_7 + 1)))) = some true := by rw [if_pos rfl] at H; exact H
                                                      clear H
                                                      have H := H1
                                                      clear H1
                                                      by_cases c92 : t298 = 1
                                                      · rw [if_pos c92] at H
                                                        have c92b0 : (t298 == 1) = true := beq_iff_eq.mpr c92
                                                        have c92b1 : (t298 != 1) = false := bne_eq_false_iff_eq.mpr c92
                                                        clear c92
                                                        have H' := Aside0.mk H
                                                        clear H
                                                        go_wp2_with (first | ((with_reducible refine gate_dst (N := 162) rfl ?_); (try (refine gate_guard (by rfl) ?_; dsimp only)); refine Kd.R_lit (Kd.int .i64) _ 3 ?hg (N := 162) ?hd (xs := ([wrap64 (-t270), x19_5, x20_6, x21_7] : List Int)) (inner := [.int .i64 (wrap64 (-t270)), .int .i64 x19_5, .int .i64 x20_6, .int .i64 x21_7]) (ok := fun _ => True) (okp := fun _ => True) ?hr ?hp (fun _ hk => hk) trivial (Below.refl _ _) (Nat.le_refl _) (by simp) ?_; (case hd => rfl); (case hg => rfl); (case hr => first | (go_simp; done) | (go_simp; rfl)); (case hp => exact (Reps.one (show Kd.M (Kd.int .i64) _ _ _ (wrap64 (-t270)) [.int .i64 (wrap64 (-t270))] from rfl) (Reps.one (show Kd.M (Kd.int .i64) _ _ _ x19_5 [.int .i64 x19_5] from rfl) (Reps.one (show Kd.M (Kd.int .i64) _ _ _ x20_6 [.int .i64 x20_6] from rfl) (Reps.one (show Kd.M (Kd.int .i64) _ _ _ x21_7 [.int .i64 x21_7] from rfl) (Reps.none _ _)))))); intro v294 w93 ho94 hb hg_ hnew_; clear hg_ hnew_; (first | rw [← Ny293.out] at ho94 | (simp only [Int.reduceToNat] at ho94; rw [← Ny293.out] at ho94)); have n0_ := Aside0.mk (Kd.N_elder' (by (with_reducible repeat (first | apply Kd.N_alloc | apply Kd.N_drewN | apply Kd.N_drew)); exact HO_6.out) (Kd.R_base ho94) hb); have n1_ := Aside0.mk (Kd.R_lower ho94 (below_size (by repeat (first | (with_reducible first | exact HB.out | apply below_alloc | apply pw_below_drewN | apply below_drew1) | exact HB.out)))); have n2_ := Aside0.mk (below_step (by repeat (first | (with_reducible first | exact HB.out | apply below_alloc | apply pw_below_drewN | apply below_drew1) | exact HB.out)) hb); clear HO_6; clear HB; have HO_6 := n0_; have HO295 := n1_; have HB := n2_; clear n0_ n1_ n2_; clear hb ho94; obtain ⟨Ao95, co95, eo95⟩ := Kd.R_slice HO295.out; subst eo95) | ((with_reducible refine gate_callee (f := 9) rfl ?_); refine goesL_ (some 165) rfl rfl Try.func9 (by kernel_rfl) rfl #[.slice Ao95 y293.length co95] rfl (by (try simp only [List.map_toArray, List.map_cons, List.map_nil]); first | done | rfl | (simp only [List.length_drop, List.length_take]; rfl)) ?_; (with_reducible refine (impl_IsRoot.calls k7 _ _ y293 true true _ ?side1 ?side2 A87.out).mono ?_); (case side1 => repeat (first | exact (Kd.R_reads' HO295.out).2.2 | (with_reducible refine Kd.C_alloc ?_ _) | (with_reducible refine Kd.C_drewN ?_ _) | (with_reducible refine Kd.C_drew ?_))); (case side2 => exact (Kd.R_reads' HO295.out).2.1); rintro e w96 ⟨rfl, hb⟩; refine ⟨_, rfl, ?_⟩; have n0_ := Aside0.mk (Kd.N_below (by (with_reducible repeat (first | apply Kd.N_alloc | apply Kd.N_drewN | apply Kd.N_drew)); exact HO_6.out) hb); have n1_ := Aside0.mk (Kd.R_below (by (with_reducible repeat (first | apply Kd.R_alloc | apply Kd.R_drewN | apply Kd.R_drew)); exact HO295.out) hb); have n2_ := Aside0.mk (below_step (by repeat (first | (with_reducible first | exact HB.out | apply below_alloc | apply pw_below_drewN | apply below_drew1) | exact HB.out)) hb); clear HO_6; clear HO295; clear HB; have HO_6 := n0_; have HO295 := n1_; have HB := n2_; clear n0_ n1_ n2_; (try clear hb); (try clear hb2); (try clear hk); (try clear hi)) | ((with_reducible refine gate_callee (f := 11) rfl ?_); refine goesL_ (some 170) rfl rfl Try.func11 (by kernel_rfl) rfl #[.slice Ao95 y293.length co95] rfl (by (try simp only [List.map_toArray, List.map_cons, List.map_nil]); first | done | rfl | (simp only [List.length_drop, List.length_take]; rfl)) ?_; (with_reducible refine (impl_ScaleOf.calls k7 _ _ y293 t298 true _ ?side1 ?side2 A88.out).mono ?_); (case side1 => repeat (first | exact (Kd.R_reads' HO295.out).2.2 | (with_reducible refine Kd.C_alloc ?_ _) | (with_reducible refine Kd.C_drewN ?_ _) | (with_reducible refine Kd.C_drew ?_))); (case side2 => exact (Kd.R_reads' HO295.out).2.1); rintro e w97 ⟨rfl, hb⟩; refine ⟨_, rfl, ?_⟩; have n0_ := Aside0.mk (Kd.N_below (by (with_reducible repeat (first | apply Kd.N_alloc | apply Kd.N_drewN | apply Kd.N_drew)); exact HO_6.out) hb); have n1_ := Aside0.mk (Kd.R_below (by (with_reducible repeat (first | apply Kd.R_alloc | apply Kd.R_drewN | apply Kd.R_drew)); exact HO295.out) hb); have n2_ := Aside0.mk (below_step (by repeat (first | (with_reducible first | exact HB.out | apply below_alloc | apply pw_below_drewN | apply below_drew1) | exact HB.out)) hb); clear HO_6; clear HO295; clear HB; have HO_6 := n0_; have HO295 := n1_; have HB := n2_; clear n0_ n1_ n2_; (try clear hb); (try clear hb2); (try clear hk); (try clear hi)))
                                                        go_roundg k7
                                                        case measure => have := HJ7.out; have := HJ16.out; have := HK3.out; have := HJ79.out; have := HK5.out; have := HK6.out; have := HK7.out; omega
                                                        case rel => exact ⟨(wrap64 (x18_7 + 1)), (wrap64 (x21_7 + 1)), (by first | rfl | (simp; done) | (simp [*]; done)), (by first | rfl | (simp; done) | (simp [*]; done)), H', ⟨by have := HJ7.out; have := HJ16.out; have := HK3.out; have := HJ79.out; have := HK5.out; have := HK6.out; have := HK7.out; omega⟩, ⟨by (with_reducible repeat (first | apply Kd.N_alloc | apply Kd.N_drewN | apply Kd.N_drew)); exact Kd.N_mono HO_6.out (fun _ hk => trivial)⟩, ⟨by repeat (first | (with_reducible first | exact HB.out | apply below_alloc | apply pw_below_drewN | apply below_drew1) | exact HB.out)⟩⟩
                                                      · rw [if_neg c92] at H
                                                        have c92b0 : (t298 == 1) = false := beq_eq_false_iff_ne.mpr c92
                                                        have c92b1 : (t298 != 1) = true := bne_iff_ne.mpr c92
                                                        have H' := Aside0.mk H
                                                        clear H
                                                        go_wp2_with (first | ((with_reducible refine gate_dst (N := 162) rfl ?_); (try (refine gate_guard (by rfl) ?_; dsimp only)); refine Kd.R_lit (Kd.int .i64) _ 3 ?hg (N := 162) ?hd (xs := ([wrap64 (-t270), x19_5, x20_6, x21_7] : List Int)) (inner := [.int .i64 (wrap64 (-t270)), .int .i64 x19_5, .int .i64 x20_6, .int .i64 x21_7]) (ok := fun _ => True) (okp := fun _ => True) ?hr ?hp (fun _ hk => hk) trivial (Below.refl _ _) (Nat.le_refl _) (by simp) ?_; (case hd => rfl); (case hg => rfl); (case hr => first | (go_simp; done) | (go_simp; rfl)); (case hp => exact (Reps.one (show Kd.M (Kd.int .i64) _ _ _ (wrap64 (-t270)) [.int .i64 (wrap64 (-t270))] from rfl) (Reps.one (show Kd.M (Kd.int .i64) _ _ _ x19_5 [.int .i64 x19_5] from rfl) (Reps.one (show Kd.M (Kd.int .i64) _ _ _ x20_6 [.int .i64 x20_6] from rfl) (Reps.one (show Kd.M (Kd.int .i64) _ _ _ x21_7 [.int .i64 x21_7] from rfl) (Reps.none _ _)))))); intro v294 w98 ho99 hb hg_ hnew_; clear hg_ hnew_; (first | rw [← Ny293.out] at ho99 | (simp only [Int.reduceToNat] at ho99; rw [← Ny293.out] at ho99)); have n0_ := Aside0.mk (Kd.N_elder' (by (with_reducible repeat (first | apply Kd.N_alloc | apply Kd.N_drewN | apply Kd.N_drew)); exact HO_6.out) (Kd.R_base ho99) hb); have n1_ := Aside0.mk (Kd.R_lower ho99 (below_size (by repeat (first | (with_reducible first | exact HB.out | apply below_alloc | apply pw_below_drewN | apply below_drew1) | exact HB.out)))); have n2_ := Aside0.mk (below_step (by repeat (first | (with_reducible first | exact HB.out | apply below_alloc | apply pw_below_drewN | apply below_drew1) | exact HB.out)) hb); clear HO_6; clear HB; have HO_6 := n0_; have HO295 := n1_; have HB := n2_; clear n0_ n1_ n2_; clear hb ho99; obtain ⟨Ao100, co100, eo100⟩ := Kd.R_slice HO295.out; subst eo100) | ((with_reducible refine gate_callee (f := 9) rfl ?_); refine goesL_ (some 165) rfl rfl Try.func9 (by kernel_rfl) rfl #[.slice Ao100 y293.length co100] rfl (by (try simp only [List.map_toArray, List.map_cons, List.map_nil]); first | done | rfl | (simp only [List.length_drop, List.length_take]; rfl)) ?_; (with_reducible refine (impl_IsRoot.calls k7 _ _ y293 true true _ ?side1 ?side2 A87.out).mono ?_); (case side1 => repeat (first | exact (Kd.R_reads' HO295.out).2.2 | (with_reducible refine Kd.C_alloc ?_ _) | (with_reducible refine Kd.C_drewN ?_ _) | (with_reducible refine Kd.C_drew ?_))); (case side2 => exact (Kd.R_reads' HO295.out).2.1); rintro e w101 ⟨rfl, hb⟩; refine ⟨_, rfl, ?_⟩; have n0_ := Aside0.mk (Kd.N_below (by (with_reducible repeat (first | apply Kd.N_alloc | apply Kd.N_drewN | apply Kd.N_drew)); exact HO_6.out) hb); have n1_ := Aside0.mk (Kd.R_below (by (with_reducible repeat (first | apply Kd.R_alloc | apply Kd.R_drewN | apply Kd.R_drew)); exact HO295.out) hb); have n2_ := Aside0.mk (below_step (by repeat (first | (with_reducible first | exact HB.out | apply below_alloc | apply pw_below_drewN | apply below_drew1) | exact HB.out)) hb); clear HO_6; clear HO295; clear HB; have HO_6 := n0_; have HO295 := n1_; have HB := n2_; clear n0_ n1_ n2_; (try clear hb); (try clear hb2); (try clear hk); (try clear hi)) | ((with_reducible refine gate_callee (f := 11) rfl ?_); refine goesL_ (some 170) rfl rfl Try.func11 (by kernel_rfl) rfl #[.slice Ao100 y293.length co100] rfl (by (try simp only [List.map_toArray, List.map_cons, List.map_nil]); first | done | rfl | (simp only [List.length_drop, List.length_take]; rfl)) ?_; (with_reducible refine (impl_ScaleOf.calls k7 _ _ y293 t298 true _ ?side1 ?side2 A88.out).mono ?_); (case side1 => repeat (first | exact (Kd.R_reads' HO295.out).2.2 | (with_reducible refine Kd.C_alloc ?_ _) | (with_reducible refine Kd.C_drewN ?_ _) | (with_reducible refine Kd.C_drew ?_))); (case side2 => exact (Kd.R_reads' HO295.out).2.1); rintro e w102 ⟨rfl, hb⟩; refine ⟨_, rfl, ?_⟩; have n0_ := Aside0.mk (Kd.N_below (by (with_reducible repeat (first | apply Kd.N_alloc | apply Kd.N_drewN | apply Kd.N_drew)); exact HO_6.out) hb); have n1_ := Aside0.mk (Kd.R_below (by (with_reducible repeat (first | apply Kd.R_alloc | apply Kd.R_drewN | apply Kd.R_drew)); exact HO295.out) hb); have n2_ := Aside0.mk (below_step (by repeat (first | (with_reducible first | exact HB.out | apply below_alloc | apply pw_below_drewN | apply below_drew1) | exact HB.out)) hb); clear HO_6; clear HO295; clear HB; have HO_6 := n0_; have HO295 := n1_; have HB := n2_; clear n0_ n1_ n2_; (try clear hb); (try clear hb2); (try clear hk); (try clear hi)))
                                                        go_roundg k7
                                                        case measure => have := HJ7.out; have := HJ16.out; have := HK3.out; have := HJ79.out; have := HK5.out; have := HK6.out; have := HK7.out; omega
                                                        case rel => exact ⟨(x18_7), (wrap64 (x21_7 + 1)), (by first | rfl | (simp; done) | (simp [*]; done)), (by first | rfl | (simp; done) | (simp [*]; done)), H', ⟨by have := HJ7.out; have := HJ16.out; have := HK3.out; have := HJ79.out; have := HK5.out; have := HK6.out; have := HK7.out; omega⟩, ⟨by (with_reducible repeat (first | apply Kd.N_alloc | apply Kd.N_drewN | apply Kd.N_drew)); exact Kd.N_mono HO_6.out (fun _ hk => trivial)⟩, ⟨by repeat (first | (with_reducible first | exact HB.out | apply below_alloc | apply pw_below_drewN | apply below_drew1) | exact HB.out)⟩⟩
                                                    · replace c91 := Bool.eq_false_iff.mpr c91
                                                      subst c91
                                                      have H1 : (laws_FnRootQuads.l3 k7 l1 t270 t271 x18_7 x19_5 x20_6 (wrap64 (x21_7 + 1))) = some true := by rw [if_neg (show ¬ (false = true) by decide)] at H; exact H
                                                      clear H
                                                      have H := H1
                                                      clear H1
                                                      have H' := Aside0.mk H
                                                      clear H
                                                      go_wp2_with (first | ((with_reducible refine gate_dst (N := 162) rfl ?_); (try (refine gate_guard (by rfl) ?_; dsimp only)); refine Kd.R_lit (Kd.int .i64) _ 3 ?hg (N := 162) ?hd (xs := ([wrap64 (-t270), x19_5, x20_6, x21_7] : List Int)) (inner := [.int .i64 (wrap64 (-t270)), .int .i64 x19_5, .int .i64 x20_6, .int .i64 x21_7]) (ok := fun _ => True) (okp := fun _ => True) ?hr ?hp (fun _ hk => hk) trivial (Below.refl _ _) (Nat.le_refl _) (by simp) ?_; (case hd => rfl); (case hg => rfl); (case hr => first | (go_simp; done) | (go_simp; rfl)); (case hp => exact (Reps.one (show Kd.M (Kd.int .i64) _ _ _ (wrap64 (-t270)) [.int .i64 (wrap64 (-t270))] from rfl) (Reps.one (show Kd.M (Kd.int .i64) _ _ _ x19_5 [.int .i64 x19_5] from rfl) (Reps.one (show Kd.M (Kd.int .i64) _ _ _ x20_6 [.int .i64 x20_6] from rfl) (Reps.one (show Kd.M (Kd.int .i64) _ _ _ x21_7 [.int .i64 x21_7] from rfl) (Reps.none _ _)))))); intro v294 w103 ho104 hb hg_ hnew_; clear hg_ hnew_; (first | rw [← Ny293.out] at ho104 | (simp only [Int.reduceToNat] at ho104; rw [← Ny293.out] at ho104)); have n0_ := Aside0.mk (Kd.N_elder' (by (with_reducible repeat (first | apply Kd.N_alloc | apply Kd.N_drewN | apply Kd.N_drew)); exact HO_6.out) (Kd.R_base ho104) hb); have n1_ := Aside0.mk (Kd.R_lower ho104 (below_size (by repeat (first | (with_reducible first | exact HB.out | apply below_alloc | apply pw_below_drewN | apply below_drew1) | exact HB.out)))); have n2_ := Aside0.mk (below_step (by repeat (first | (with_reducible first | exact HB.out | apply below_alloc | apply pw_below_drewN | apply below_drew1) | exact HB.out)) hb); clear HO_6; clear HB; have HO_6 := n0_; have HO295 := n1_; have HB := n2_; clear n0_ n1_ n2_; clear hb ho104; obtain ⟨Ao105, co105, eo105⟩ := Kd.R_slice HO295.out; subst eo105) | ((with_reducible refine gate_callee (f := 9) rfl ?_); refine goesL_ (some 165) rfl rfl Try.func9 (by kernel_rfl) rfl #[.slice Ao105 y293.length co105] rfl (by (try simp only [List.map_toArray, List.map_cons, List.map_nil]); first | done | rfl | (simp only [List.length_drop, List.length_take]; rfl)) ?_; (with_reducible refine (impl_IsRoot.calls k7 _ _ y293 false true _ ?side1 ?side2 A87.out).mono ?_); (case side1 => repeat (first | exact (Kd.R_reads' HO295.out).2.2 | (with_reducible refine Kd.C_alloc ?_ _) | (with_reducible refine Kd.C_drewN ?_ _) | (with_reducible refine Kd.C_drew ?_))); (case side2 => exact (Kd.R_reads' HO295.out).2.1); rintro e w106 ⟨rfl, hb⟩; refine ⟨_, rfl, ?_⟩; have n0_ := Aside0.mk (Kd.N_below (by (with_reducible repeat (first | apply Kd.N_alloc | apply Kd.N_drewN | apply Kd.N_drew)); exact HO_6.out) hb); have n1_ := Aside0.mk (Kd.R_below (by (with_reducible repeat (first | apply Kd.R_alloc | apply Kd.R_drewN | apply Kd.R_drew)); exact HO295.out) hb); have n2_ := Aside0.mk (below_step (by repeat (first | (with_reducible first | exact HB.out | apply below_alloc | apply pw_below_drewN | apply below_drew1) | exact HB.out)) hb); clear HO_6; clear HO295; clear HB; have HO_6 := n0_; have HO295 := n1_; have HB := n2_; clear n0_ n1_ n2_; (try clear hb); (try clear hb2); (try clear hk); (try clear hi)) | ((with_reducible refine gate_callee (f := 11) rfl ?_); refine goesL_ (some 170) rfl rfl Try.func11 (by kernel_rfl) rfl #[.slice Ao105 y293.length co105] rfl (by (try simp only [List.map_toArray, List.map_cons, List.map_nil]); first | done | rfl | (simp only [List.length_drop, List.length_take]; rfl)) ?_; (with_reducible refine (impl_ScaleOf.calls k7 _ _ y293 t298 true _ ?side1 ?side2 A88.out).mono ?_); (case side1 => repeat (first | exact (Kd.R_reads' HO295.out).2.2 | (with_reducible refine Kd.C_alloc ?_ _) | (with_reducible refine Kd.C_drewN ?_ _) | (with_reducible refine Kd.C_drew ?_))); (case side2 => exact (Kd.R_reads' HO295.out).2.1); rintro e w107 ⟨rfl, hb⟩; refine ⟨_, rfl, ?_⟩; have n0_ := Aside0.mk (Kd.N_below (by (with_reducible repeat (first | apply Kd.N_alloc | apply Kd.N_drewN | apply Kd.N_drew)); exact HO_6.out) hb); have n1_ := Aside0.mk (Kd.R_below (by (with_reducible repeat (first | apply Kd.R_alloc | apply Kd.R_drewN | apply Kd.R_drew)); exact HO295.out) hb); have n2_ := Aside0.mk (below_step (by repeat (first | (with_reducible first | exact HB.out | apply below_alloc | apply pw_below_drewN | apply below_drew1) | exact HB.out)) hb); clear HO_6; clear HO295; clear HB; have HO_6 := n0_; have HO295 := n1_; have HB := n2_; clear n0_ n1_ n2_; (try clear hb); (try clear hb2); (try clear hk); (try clear hi)))
                                                      go_roundg k7
                                                      case measure => have := HJ7.out; have := HJ16.out; have := HK3.out; have := HJ79.out; have := HK5.out; have := HK6.out; have := HK7.out; omega
                                                      case rel => exact ⟨(x18_7), (wrap64 (x21_7 + 1)), (by first | rfl | (simp; done) | (simp [*]; done)), (by first | rfl | (simp; done) | (simp [*]; done)), H', ⟨by have := HJ7.out; have := HJ16.out; have := HK3.out; have := HJ79.out; have := HK5.out; have := HK6.out; have := HK7.out; omega⟩, ⟨by (with_reducible repeat (first | apply Kd.N_alloc | apply Kd.N_drewN | apply Kd.N_drew)); exact Kd.N_mono HO_6.out (fun _ hk => trivial)⟩, ⟨by repeat (first | (with_reducible first | exact HB.out | apply below_alloc | apply pw_below_drewN | apply below_drew1) | exact HB.out)⟩⟩
                                                  · replace c90 := Bool.eq_false_iff.mpr c90
                                                    subst c90
                                                    have H1 : (laws_FnRootQuads.l3 k7 l1 t270 t271 x18_7 x19_5 x20_6 (wrap64 (x21_7 + 1))) = some true := by rw [if_neg (show ¬ (false = true) by decide)] at H; exact H
                                                    clear H
                                                    have H := H1
                                                    clear H1
                                                    have H' := Aside0.mk H
                                                    clear H
                                                    go_wp2_with (first | ((with_reducible refine gate_dst (N := 162) rfl ?_); (try (refine gate_guard (by rfl) ?_; dsimp only)); refine Kd.R_lit (Kd.int .i64) _ 3 ?hg (N := 162) ?hd (xs := ([wrap64 (-t270), x19_5, x20_6, x21_7] : List Int)) (inner := [.int .i64 (wrap64 (-t270)), .int .i64 x19_5, .int .i64 x20_6, .int .i64 x21_7]) (ok := fun _ => True) (okp := fun _ => True) ?hr ?hp (fun _ hk => hk) trivial (Below.refl _ _) (Nat.le_refl _) (by simp) ?_; (case hd => rfl); (case hg => rfl); (case hr => first | (go_simp; done) | (go_simp; rfl)); (case hp => exact (Reps.one (show Kd.M (Kd.int .i64) _ _ _ (wrap64 (-t270)) [.int .i64 (wrap64 (-t270))] from rfl) (Reps.one (show Kd.M (Kd.int .i64) _ _ _ x19_5 [.int .i64 x19_5] from rfl) (Reps.one (show Kd.M (Kd.int .i64) _ _ _ x20_6 [.int .i64 x20_6] from rfl) (Reps.one (show Kd.M (Kd.int .i64) _ _ _ x21_7 [.int .i64 x21_7] from rfl) (Reps.none _ _)))))); intro v294 w108 ho109 hb hg_ hnew_; clear hg_ hnew_; (first | rw [← Ny293.out] at ho109 | (simp only [Int.reduceToNat] at ho109; rw [← Ny293.out] at ho109)); have n0_ := Aside0.mk (Kd.N_elder' (by (with_reducible repeat (first | apply Kd.N_alloc | apply Kd.N_drewN | apply Kd.N_drew)); exact HO_6.out) (Kd.R_base ho109) hb); have n1_ := Aside0.mk (Kd.R_lower ho109 (below_size (by repeat (first | (with_reducible first | exact HB.out | apply below_alloc | apply pw_below_drewN | apply below_drew1) | exact HB.out)))); have n2_ := Aside0.mk (below_step (by repeat (first | (with_reducible first | exact HB.out | apply below_alloc | apply pw_below_drewN | apply below_drew1) | exact HB.out)) hb); clear HO_6; clear HB; have HO_6 := n0_; have HO295 := n1_; have HB := n2_; clear n0_ n1_ n2_; clear hb ho109; obtain ⟨Ao110, co110, eo110⟩ := Kd.R_slice HO295.out; subst eo110) | ((with_reducible refine gate_callee (f := 9) rfl ?_); refine goesL_ (some 165) rfl rfl Try.func9 (by kernel_rfl) rfl #[.slice Ao110 y293.length co110] rfl (by (try simp only [List.map_toArray, List.map_cons, List.map_nil]); first | done | rfl | (simp only [List.length_drop, List.length_take]; rfl)) ?_; (with_reducible refine (impl_IsRoot.calls k7 _ _ y293 t296 true _ ?side1 ?side2 A87.out).mono ?_); (case side1 => repeat (first | exact (Kd.R_reads' HO295.out).2.2 | (with_reducible refine Kd.C_alloc ?_ _) | (with_reducible refine Kd.C_drewN ?_ _) | (with_reducible refine Kd.C_drew ?_))); (case side2 => exact (Kd.R_reads' HO295.out).2.1); rintro e w111 ⟨rfl, hb⟩; refine ⟨_, rfl, ?_⟩; have n0_ := Aside0.mk (Kd.N_below (by (with_reducible repeat (first | apply Kd.N_alloc | apply Kd.N_drewN | apply Kd.N_drew)); exact HO_6.out) hb); have n1_ := Aside0.mk (Kd.R_below (by (with_reducible repeat (first | apply Kd.R_alloc | apply Kd.R_drewN | apply Kd.R_drew)); exact HO295.out) hb); have n2_ := Aside0.mk (below_step (by repeat (first | (with_reducible first | exact HB.out | apply below_alloc | apply pw_below_drewN | apply below_drew1) | exact HB.out)) hb); clear HO_6; clear HO295; clear HB; have HO_6 := n0_; have HO295 := n1_; have HB := n2_; clear n0_ n1_ n2_; (try clear hb); (try clear hb2); (try clear hk); (try clear hi)) | ((with_reducible refine gate_callee (f := 11) rfl ?_); refine goesL_ (some 170) rfl rfl Try.func11 (by kernel_rfl) rfl #[.slice Ao110 y293.length co110] rfl (by (try simp only [List.map_toArray, List.map_cons, List.map_nil]); first | done | rfl | (simp only [List.length_drop, List.length_take]; rfl)) ?_; (with_reducible refine (impl_ScaleOf.calls k7 _ _ y293 t298 false _ ?side1 ?side2 A88.out).mono ?_); (case side1 => repeat (first | exact (Kd.R_reads' HO295.out).2.2 | (with_reducible refine Kd.C_alloc ?_ _) | (with_reducible refine Kd.C_drewN ?_ _) | (with_reducible refine Kd.C_drew ?_))); (case side2 => exact (Kd.R_reads' HO295.out).2.1); rintro e w112 ⟨rfl, hb⟩; refine ⟨_, rfl, ?_⟩; have n0_ := Aside0.mk (Kd.N_below (by (with_reducible repeat (first | apply Kd.N_alloc | apply Kd.N_drewN | apply Kd.N_drew)); exact HO_6.out) hb); have n1_ := Aside0.mk (Kd.R_below (by (with_reducible repeat (first | apply Kd.R_alloc | apply Kd.R_drewN | apply Kd.R_drew)); exact HO295.out) hb); have n2_ := Aside0.mk (below_step (by repeat (first | (with_reducible first | exact HB.out | apply below_alloc | apply pw_below_drewN | apply below_drew1) | exact HB.out)) hb); clear HO_6; clear HO295; clear HB; have HO_6 := n0_; have HO295 := n1_; have HB := n2_; clear n0_ n1_ n2_; (try clear hb); (try clear hb2); (try clear hk); (try clear hi)))
                                                    go_roundg k7
                                                    case measure => have := HJ7.out; have := HJ16.out; have := HK3.out; have := HJ79.out; have := HK5.out; have := HK6.out; have := HK7.out; omega
                                                    case rel => exact ⟨(x18_7), (wrap64 (x21_7 + 1)), (by first | rfl | (simp; done) | (simp [*]; done)), (by first | rfl | (simp; done) | (simp [*]; done)), H', ⟨by have := HJ7.out; have := HJ16.out; have := HK3.out; have := HJ79.out; have := HK5.out; have := HK6.out; have := HK7.out; omega⟩, ⟨by (with_reducible repeat (first | apply Kd.N_alloc | apply Kd.N_drewN | apply Kd.N_drew)); exact Kd.N_mono HO_6.out (fun _ hk => trivial)⟩, ⟨by repeat (first | (with_reducible first | exact HB.out | apply below_alloc | apply pw_below_drewN | apply below_drew1) | exact HB.out)⟩⟩
                                                · replace c89 := Bool.eq_false_iff.mpr c89
                                                  subst c89
                                                  have H1 : (laws_FnRootQuads.l3 k7 l1 t270 t271 x18_7 x19_5 x20_6 (wrap64 (x21_7 + 1))) = some true := by rw [if_neg (show ¬ (false = true) by decide)] at H; exact H
                                                  clear H
                                                  have H := H1
                                                  clear H1
                                                  have H' := Aside0.mk H
                                                  clear H
                                                  go_wp2_with (first | ((with_reducible refine gate_dst (N := 162) rfl ?_); (try (refine gate_guard (by rfl) ?_; dsimp only)); refine Kd.R_lit (Kd.int .i64) _ 3 ?hg (N := 162) ?hd (xs := ([wrap64 (-t270), x19_5, x20_6, x21_7] : List Int)) (inner := [.int .i64 (wrap64 (-t270)), .int .i64 x19_5, .int .i64 x20_6, .int .i64 x21_7]) (ok := fun _ => True) (okp := fun _ => True) ?hr ?hp (fun _ hk => hk) trivial (Below.refl _ _) (Nat.le_refl _) (by simp) ?_; (case hd => rfl); (case hg => rfl); (case hr => first | (go_simp; done) | (go_simp; rfl)); (case hp => exact (Reps.one (show Kd.M (Kd.int .i64) _ _ _ (wrap64 (-t270)) [.int .i64 (wrap64 (-t270))] from rfl) (Reps.one (show Kd.M (Kd.int .i64) _ _ _ x19_5 [.int .i64 x19_5] from rfl) (Reps.one (show Kd.M (Kd.int .i64) _ _ _ x20_6 [.int .i64 x20_6] from rfl) (Reps.one (show Kd.M (Kd.int .i64) _ _ _ x21_7 [.int .i64 x21_7] from rfl) (Reps.none _ _)))))); intro v294 w113 ho114 hb hg_ hnew_; clear hg_ hnew_; (first | rw [← Ny293.out] at ho114 | (simp only [Int.reduceToNat] at ho114; rw [← Ny293.out] at ho114)); have n0_ := Aside0.mk (Kd.N_elder' (by (with_reducible repeat (first | apply Kd.N_alloc | apply Kd.N_drewN | apply Kd.N_drew)); exact HO_6.out) (Kd.R_base ho114) hb); have n1_ := Aside0.mk (Kd.R_lower ho114 (below_size (by repeat (first | (with_reducible first | exact HB.out | apply below_alloc | apply pw_below_drewN | apply below_drew1) | exact HB.out)))); have n2_ := Aside0.mk (below_step (by repeat (first | (with_reducible first | exact HB.out | apply below_alloc | apply pw_below_drewN | apply below_drew1) | exact HB.out)) hb); clear HO_6; clear HB; have HO_6 := n0_; have HO295 := n1_; have HB := n2_; clear n0_ n1_ n2_; clear hb ho114; obtain ⟨Ao115, co115, eo115⟩ := Kd.R_slice HO295.out; subst eo115) | ((with_reducible refine gate_callee (f := 9) rfl ?_); refine goesL_ (some 165) rfl rfl Try.func9 (by kernel_rfl) rfl #[.slice Ao115 y293.length co115] rfl (by (try simp only [List.map_toArray, List.map_cons, List.map_nil]); first | done | rfl | (simp only [List.length_drop, List.length_take]; rfl)) ?_; (with_reducible refine (impl_IsRoot.calls k7 _ _ y293 t296 false _ ?side1 ?side2 A87.out).mono ?_); (case side1 => repeat (first | exact (Kd.R_reads' HO295.out).2.2 | (with_reducible refine Kd.C_alloc ?_ _) | (with_reducible refine Kd.C_drewN ?_ _) | (with_reducible refine Kd.C_drew ?_))); (case side2 => exact (Kd.R_reads' HO295.out).2.1); rintro e w116 ⟨rfl, hb⟩; refine ⟨_, rfl, ?_⟩; have n0_ := Aside0.mk (Kd.N_below (by (with_reducible repeat (first | apply Kd.N_alloc | apply Kd.N_drewN | apply Kd.N_drew)); exact HO_6.out) hb); have n1_ := Aside0.mk (Kd.R_below (by (with_reducible repeat (first | apply Kd.R_alloc | apply Kd.R_drewN | apply Kd.R_drew)); exact HO295.out) hb); have n2_ := Aside0.mk (below_step (by repeat (first | (with_reducible first | exact HB.out | apply below_alloc | apply pw_below_drewN | apply below_drew1) | exact HB.out)) hb); clear HO_6; clear HO295; clear HB; have HO_6 := n0_; have HO295 := n1_; have HB := n2_; clear n0_ n1_ n2_; (try clear hb); (try clear hb2); (try clear hk); (try clear hi)) | ((with_reducible refine gate_callee (f := 11) rfl ?_); refine goesL_ (some 170) rfl rfl Try.func11 (by kernel_rfl) rfl #[.slice Ao115 y293.length co115] rfl (by (try simp only [List.map_toArray, List.map_cons, List.map_nil]); first | done | rfl | (simp only [List.length_drop, List.length_take]; rfl)) ?_; (with_reducible refine (impl_ScaleOf.calls k7 _ _ y293 t298 t299 _ ?side1 ?side2 A88.out).mono ?_); (case side1 => repeat (first | exact (Kd.R_reads' HO295.out).2.2 | (with_reducible refine Kd.C_alloc ?_ _) | (with_reducible refine Kd.C_drewN ?_ _) | (with_reducible refine Kd.C_drew ?_))); (case side2 => exact (Kd.R_reads' HO295.out).2.1); rintro e w117 ⟨rfl, hb⟩; refine ⟨_, rfl, ?_⟩; have n0_ := Aside0.mk (Kd.N_below (by (with_reducible repeat (first | apply Kd.N_alloc | apply Kd.N_drewN | apply Kd.N_drew)); exact HO_6.out) hb); have n1_ := Aside0.mk (Kd.R_below (by (with_reducible repeat (first | apply Kd.R_alloc | apply Kd.R_drewN | apply Kd.R_drew)); exact HO295.out) hb); have n2_ := Aside0.mk (below_step (by repeat (first | (with_reducible first | exact HB.out | apply below_alloc | apply pw_below_drewN | apply below_drew1) | exact HB.out)) hb); clear HO_6; clear HO295; clear HB; have HO_6 := n0_; have HO295 := n1_; have HB := n2_; clear n0_ n1_ n2_; (try clear hb); (try clear hb2); (try clear hk); (try clear hi)))
                                                  go_roundg k7
                                                  case measure => have := HJ7.out; have := HJ16.out; have := HK3.out; have := HJ79.out; have := HK5.out; have := HK6.out; have := HK7.out; omega
                                                  case rel => exact ⟨(x18_7), (wrap64 (x21_7 + 1)), (by first | rfl | (simp; done) | (simp [*]; done)), (by first | rfl | (simp; done) | (simp [*]; done)), H', ⟨by have := HJ7.out; have := HJ16.out; have := HK3.out; have := HJ79.out; have := HK5.out; have := HK6.out; have := HK7.out; omega⟩, ⟨by (with_reducible repeat (first | apply Kd.N_alloc | apply Kd.N_drewN | apply Kd.N_drew)); exact Kd.N_mono HO_6.out (fun _ hk => trivial)⟩, ⟨by repeat (first | (with_reducible first | exact HB.out | apply below_alloc | apply pw_below_drewN | apply below_drew1) | exact HB.out)⟩⟩
                                              · rw [if_neg c86] at H
                                                have c86b0 : decide (x21_7 ≤ 60) = false := decide_eq_false c86
                                                clear c86
                                                have H' := Aside0.mk H
                                                clear H
                                                go_wp2
                                                go_roundg k7
                                                case measure => have := HJ7.out; have := HJ16.out; have := HK3.out; have := HJ79.out; have := HK5.out; have := HK6.out; have := HK7.out; omega
                                                case rel => exact ⟨(x18_7), (wrap64 (x20_6 + 1)), (by first | rfl | (simp; done) | (simp [*]; done)), (by first | rfl | (simp; done) | (simp [*]; done)), H', ⟨by have := HJ7.out; have := HJ16.out; have := HK3.out; have := HJ79.out; have := HK5.out; have := HK6.out; have := HK7.out; omega⟩, ⟨by (with_reducible repeat (first | apply Kd.N_alloc | apply Kd.N_drewN | apply Kd.N_drew)); exact HO_6.out⟩, ⟨by repeat (first | (with_reducible first | exact HB.out | apply below_alloc | apply pw_below_drewN | apply below_drew1) | exact HB.out)⟩⟩
                                        · rw [if_neg c85] at H
                                          have c85b0 : decide (x20_6 ≤ 60) = false := decide_eq_false c85
                                          clear c85
                                          have H' := Aside0.mk H
                                          clear H
                                          go_wp2
                                          go_roundg k6
                                          case measure => have := HJ7.out; have := HJ16.out; have := HK3.out; have := HJ79.out; have := HK5.out; have := HK6.out; omega
                                          case rel => exact ⟨(x18_6), (wrap64 (x19_5 + 1)), (by first | rfl | (simp; done) | (simp [*]; done)), (by first | rfl | (simp; done) | (simp [*]; done)), H', ⟨by have := HJ7.out; have := HJ16.out; have := HK3.out; have := HJ79.out; have := HK5.out; have := HK6.out; omega⟩, ⟨by (with_reducible repeat (first | apply Kd.N_alloc | apply Kd.N_drewN | apply Kd.N_drew)); exact HO_6.out⟩, ⟨by repeat (first | (with_reducible first | exact HB.out | apply below_alloc | apply pw_below_drewN | apply below_drew1) | exact HB.out)⟩⟩
                                  · rw [if_neg c84] at H
                                    have c84b0 : decide (x19_5 ≤ 60) = false := decide_eq_false c84
                                    clear c84
                                    (first | rw [c84b0] | (simp only [i64_w, i32_w]; rw [c84b0]) | skip)
                                    have H' := Aside0.mk H
                                    clear H
                                    go_wp2
                                    go_loopg [27, 188] k5 (fun kq v27 v188 w' => ∃ (x27_6 : Int) (x188_6 : Int), v27 = .int .i64 x27_6 ∧ v188 = .int .i64 x188_6 ∧ Aside0 (laws_FnRootQuads.l4 kq l1 x18_5 x27_6 t271 (t271.length : Int) x188_6 = some true) ∧ Aside0 (kq ≤ k5) ∧ Aside0 (Kd.N (Kd.slice 3 (Kd.int .i64)) 29 w' w.heap.size (fun _ => True) (.slice Ao21 t271.length co21) t271) ∧ Aside0 (Below w.heap.size w w'))
                                    case atStart => exact ⟨(0), (0), (by first | rfl | (simp; done) | (simp [*]; done)), (by first | rfl | (simp; done) | (simp [*]; done)), H', ⟨Nat.le_refl _⟩, ⟨by (with_reducible repeat (first | apply Kd.N_alloc | apply Kd.N_drewN | apply Kd.N_drew)); exact HO_6.out⟩, ⟨by repeat (first | (with_reducible first | exact HB.out | apply below_alloc | apply pw_below_drewN | apply below_drew1) | exact HB.out)⟩⟩
                                    case round =>
                                      clear H'
                                      try clear c1
                                      try clear c2
                                      try clear p2
                                      try clear q2
                                      try clear hx2
                                      try clear qi2
                                      try clear c3
                                      try clear c4
                                      try clear c5
                                      try clear c6
                                      try clear p6
                                      try clear c7
                                      try clear c8
                                      try clear c9
                                      try clear c10
                                      try clear c11
                                      try clear c12
                                      try clear c12b0
                                      try clear c12b1
                                      try clear c12b2
                                      try clear c16
                                      try clear c18
                                      try clear c20
                                      try clear c22
                                      try clear c22b0
                                      try clear c23
                                      try clear c23b0
                                      try clear c24
                                      try clear c24b0
                                      try clear c28
                                      try clear p28
                                      try clear q28
                                      try clear hx28
                                      try clear c29
                                      try clear p29
                                      try clear q29
                                      try clear hx29
                                      try clear qi29
                                      try clear c30
                                      try clear c32
                                      try clear c33
                                      try clear c34
                                      try clear c34b0
                                      try clear c34b1
                                      try clear c35
                                      try clear c35b0
                                      try clear c35b1
                                      try clear c36
                                      try clear c36b0
                                      try clear c36b1
                                      try clear c37
                                      try clear c37b0
                                      try clear c39
                                      try clear c39b0
                                      try clear c40
                                      try clear c40b0
                                      try clear c42
                                      try clear p64
                                      try clear c81
                                      try clear c83
                                      try clear c84
                                      try clear c84b0
                                      try clear c85
                                      try clear c85b0
                                      try clear c86
                                      try clear c86b0
                                      try clear c89
                                      try clear c90
                                      try clear c91
                                      try clear c92
                                      try clear c92b0
                                      try clear c92b1
                                      try clear hx280_0
                                      try clear hx290_0
                                      try clear hx291_0
                                      try clear p2
                                      try clear p28
                                      try clear p280
                                      try clear p29
                                      try clear p290
                                      try clear p291
                                      try clear p6
                                      try clear p64
                                      try clear q2
                                      try clear q28
                                      try clear q280
                                      try clear q29
                                      try clear q290
                                      try clear q291
                                      obtain ⟨x27_6, x188_6, rfl, rfl, HA, HK6, HO_186, HB⟩ := hrel
                                      cases gk with
                                      | zero => exact absurd HA.out (by simp [laws_FnRootQuads.l4])
                                      | succ k6 =>
                                        have H := HA.out
                                        clear HA
                                        simp only [laws_FnRootQuads.l4] at H
                                        by_cases c118 : x188_6 < (t271.length : Int)
                                        · rw [if_pos c118] at H
                                          have c118b0 : decide (x188_6 < (t271.length : Int)) = true := decide_eq_true c118
                                          clear c118
                                          by_cases c119 : 0 ≤ x188_6
                                          · rw [if_pos c119] at H
                                            have c119b0 : decide (0 ≤ x188_6) = true := decide_eq_true c119
                                            clear c119
                                            by_cases c120 : x188_6 < (t271.length : Int)
                                            · rw [if_pos c120] at H
                                              have c120b0 : decide (x188_6 < (t271.length : Int)) = true := decide_eq_true c120
                                              clear c120
                                              by_cases c121 : 3 < ((rd_L2 t271 x188_6).length : Int)
                                              · rw [if_pos c121] at H
                                                have c121b0 : decide (3 < ((rd_L2 t271 x188_6).length : Int)) = true := decide_eq_true c121
                                                have c121b1 : decide (3 < (rd_L2 t271 x188_6).length) = true := decide_eq_true (by omega)
                                                clear c121
                                                by_cases c122 : (rd (rd_L2 t271 x188_6) 3) ≤ 60
                                                · rw [if_pos c122] at H
                                                  have c122b0 : decide ((rd (rd_L2 t271 x188_6) 3) ≤ 60) = true := decide_eq_true c122
                                                  clear c122
                                                  have H' := Aside0.mk H
                                                  clear H
                                                  have p300 : 0 ≤ (x188_6 : Int) := of_decide_eq_true (by first | (with_reducible assumption) | assumption)
                                                  have q300 : x188_6 < (t271.length : Int) := of_decide_eq_true (by first | (with_reducible assumption) | assumption)
                                                  obtain ⟨ad300, A300_0, c300_0, e300, hx300_0, hl300_0, hi300_0⟩ := at_L2 (Kd.N_reads' HO_186.out).2.2 x188_6 p300 q300
                                                  cases e300
                                                  obtain ⟨ce300, hce300, hMe300, hcc300⟩ := Kd.N_get HO_186.out [] x188_6 p300 (by first | exact q300 | exact of_decide_eq_true (by first | (with_reducible assumption) | assumption) | (have e_ := (Kd.N_reads' HO_186.out).1; omega))
                                                  obtain ⟨ua300_0, uc300_0, rfl, ul300_0, ge300_0⟩ := Kd.FK_slice_open hMe300
                                                  have hv300_0 := hcc300 0 _ rfl
                                                  rw [Nat.add_zero, show ((Kd.slice 3 (Kd.int .i64))).sz = 1 from rfl, Nat.mul_one] at hv300_0
                                                  replace hv300_0 := Option.some.inj (hv300_0.symm.trans hx300_0)
                                                  injection hv300_0 with hva_ hvn_ hvc_
                                                  rw [hva_] at ge300_0
                                                  rw [hvc_] at ul300_0
                                                  have HL300_0 := Aside0.mk (show Kd.V (Kd.int .i64) 3 _ w.heap.size _ _ (rd_L2 t271 x188_6) from Kd.V_mk ul300_0 ge300_0)
                                                  clear hva_ hvn_ hvc_ ge300_0 ul300_0
                                                  clear hcc300 hce300
                                                  have HR300_0 := Aside0.mk hi300_0
                                                  have HC300_0 := Aside0.mk hl300_0
                                                  clear hi300_0 hl300_0
                                                  replace p300 := eq_true p300
                                                  replace q300 := eq_true q300
                                                  have p301 : 0 ≤ (3 : Int) := (by omega)
                                                  have q301 : 3 < ((rd_L2 t271 x188_6).length : Int) := of_decide_eq_true (by first | (with_reducible assumption) | assumption)
                                                  obtain ⟨ad301, e301, hx301_0⟩ := Kd.at_int (by repeat (first | (with_reducible exact HR300_0.out) | (with_reducible refine Kd.C_alloc ?_ _) | (with_reducible refine Kd.C_drewN ?_ _) | (with_reducible refine Kd.C_drew ?_) | exact HR300_0.out)) 3 p301 q301
                                                  cases e301
                                                  (try simp only [show (3 : Int).toNat = 3 from rfl, Nat.reduceMul, Nat.reduceEqDiff, Go.Addr.add, ↓reduceIte] at hx301_0)
                                                  have qi301 : (3 < (rd_L2 t271 x188_6).length) = True := eq_true (by omega)
                                                  (try rw [show ((3 : Int)).toNat = 3 from rfl] at hx301_0)
                                                  replace p301 := eq_true p301
                                                  replace q301 := eq_true q301
                                                  go_wp2
                                                  go_roundg k6
                                                  case measure => have := HJ7.out; have := HJ16.out; have := HK3.out; have := HJ79.out; have := HK5.out; have := HK6.out; omega
                                                  case rel => exact ⟨(wrap64 (x27_6 + 1)), (wrap64 (x188_6 + 1)), (by first | rfl | (simp; done) | (simp [*]; done)), (by first | rfl | (simp; done) | (simp [*]; done)), H', ⟨by have := HJ7.out; have := HJ16.out; have := HK3.out; have := HJ79.out; have := HK5.out; have := HK6.out; omega⟩, ⟨by (with_reducible repeat (first | apply Kd.N_alloc | apply Kd.N_drewN | apply Kd.N_drew)); exact HO_186.out⟩, ⟨by repeat (first | (with_reducible first | exact HB.out | apply below_alloc | apply pw_below_drewN | apply below_drew1) | exact HB.out)⟩⟩
                                                · rw [if_neg c122] at H
                                                  have c122b0 : decide ((rd (rd_L2 t271 x188_6) 3) ≤ 60) = false := decide_eq_false c122
                                                  clear c122
                                                  have H' := Aside0.mk H
                                                  clear H
                                                  have p300 : 0 ≤ (x188_6 : Int) := of_decide_eq_true (by first | (with_reducible assumption) | assumption)
                                                  have q300 : x188_6 < (t271.length : Int) := of_decide_eq_true (by first | (with_reducible assumption) | assumption)
                                                  obtain ⟨ad300, A300_0, c300_0, e300, hx300_0, hl300_0, hi300_0⟩ := at_L2 (Kd.N_reads' HO_186.out).2.2 x188_6 p300 q300
                                                  cases e300
                                                  obtain ⟨ce300, hce300, hMe300, hcc300⟩ := Kd.N_get HO_186.out [] x188_6 p300 (by first | exact q300 | exact of_decide_eq_true (by first | (with_reducible assumption) | assumption) | (have e_ := (Kd.N_reads' HO_186.out).1; omega))
                                                  obtain ⟨ua300_0, uc300_0, rfl, ul300_0, ge300_0⟩ := Kd.FK_slice_open hMe300
                                                  have hv300_0 := hcc300 0 _ rfl
                                                  rw [Nat.add_zero, show ((Kd.slice 3 (Kd.int .i64))).sz = 1 from rfl, Nat.mul_one] at hv300_0
                                                  replace hv300_0 := Option.some.inj (hv300_0.symm.trans hx300_0)
                                                  injection hv300_0 with hva_ hvn_ hvc_
                                                  rw [hva_] at ge300_0
                                                  rw [hvc_] at ul300_0
                                                  have HL300_0 := Aside0.mk (show Kd.V (Kd.int .i64) 3 _ w.heap.size _ _ (rd_L2 t271 x188_6) from Kd.V_mk ul300_0 ge300_0)
                                                  clear hva_ hvn_ hvc_ ge300_0 ul300_0
                                                  clear hcc300 hce300
                                                  have HR300_0 := Aside0.mk hi300_0
                                                  have HC300_0 := Aside0.mk hl300_0
                                                  clear hi300_0 hl300_0
                                                  replace p300 := eq_true p300
                                                  replace q300 := eq_true q300
                                                  have p301 : 0 ≤ (3 : Int) := (by omega)
                                                  have q301 : 3 < ((rd_L2 t271 x188_6).length : Int) := of_decide_eq_true (by first | (with_reducible assumption) | assumption)
                                                  obtain ⟨ad301, e301, hx301_0⟩ := Kd.at_int (by repeat (first | (with_reducible exact HR300_0.out) | (with_reducible refine Kd.C_alloc ?_ _) | (with_reducible refine Kd.C_drewN ?_ _) | (with_reducible refine Kd.C_drew ?_) | exact HR300_0.out)) 3 p301 q301
                                                  cases e301
                                                  (try simp only [show (3 : Int).toNat = 3 from rfl, Nat.reduceMul, Nat.reduceEqDiff, Go.Addr.add, ↓reduceIte] at hx301_0)
                                                  have qi301 : (3 < (rd_L2 t271 x188_6).length) = True := eq_true (by omega)
                                                  (try rw [show ((3 : Int)).toNat = 3 from rfl] at hx301_0)
                                                  replace p301 := eq_true p301
                                                  replace q301 := eq_true q301
                                                  go_wp2
                                                  go_roundg k6
                                                  case measure => have := HJ7.out; have := HJ16.out; have := HK3.out; have := HJ79.out; have := HK5.out; have := HK6.out; omega
                                                  case rel => exact ⟨(x27_6), (wrap64 (x188_6 + 1)), (by first | rfl | (simp; done) | (simp [*]; done)), (by first | rfl | (simp; done) | (simp [*]; done)), H', ⟨by have := HJ7.out; have := HJ16.out; have := HK3.out; have := HJ79.out; have := HK5.out; have := HK6.out; omega⟩, ⟨by (with_reducible repeat (first | apply Kd.N_alloc | apply Kd.N_drewN | apply Kd.N_drew)); exact HO_186.out⟩, ⟨by repeat (first | (with_reducible first | exact HB.out | apply below_alloc | apply pw_below_drewN | apply below_drew1) | exact HB.out)⟩⟩
                                              · rw [if_neg c121] at H
                                                exact absurd H (by simp)
                                            · rw [if_neg c120] at H
                                              exact absurd H (by simp)
                                          · rw [if_neg c119] at H
                                            exact absurd H (by simp)
                                        · rw [if_neg c118] at H
                                          have c118b0 : decide (x188_6 < (t271.length : Int)) = false := decide_eq_false c118
                                          clear c118
                                          by_cases c123 : x18_5 = x27_6
                                          · rw [if_pos c123] at H
                                            have c123b0 : (x18_5 == x27_6) = true := beq_iff_eq.mpr c123
                                            have c123b1 : (x18_5 != x27_6) = false := bne_eq_false_iff_eq.mpr c123
                                            clear c123
                                            have H' := Aside0.mk H
                                            clear H
                                            go_wp2
                                            go_meet
                                            case rel => exact ⟨_, H', ⟨by have := HJ7.out; have := HJ16.out; have := HK3.out; have := HJ79.out; have := HK5.out; have := HK6.out; first | omega | exact Nat.le_refl _⟩, ⟨by repeat (first | (with_reducible first | exact HB.out | apply below_alloc | apply pw_below_drewN | apply below_drew1) | exact HB.out)⟩⟩
                                          · rw [if_neg c123] at H
                                            have c123b0 : (x18_5 == x27_6) = false := beq_eq_false_iff_ne.mpr c123
                                            have c123b1 : (x18_5 != x27_6) = true := bne_iff_ne.mpr c123
                                            first | (exact absurd (Option.some.inj H) (by decide)) | (obtain rfl := Option.some.inj H; go_wp2; go_ret; exact ⟨by first | rfl | (simp [errW_none, errW_some] <;> rfl) | (simp [*, errW_none, errW_some] <;> rfl), by repeat (first | (with_reducible first | exact HB.out | apply below_alloc | apply pw_below_drewN | apply below_drew1) | exact HB.out)⟩) | (have he_ := Option.some.inj H; have hq_ := beq_iff_eq.mp he_; go_wp2; go_ret; exact ⟨by first | rfl | (simp [errW_none, errW_some] <;> rfl) | (simp [*, errW_none, errW_some] <;> rfl), by repeat (first | (with_reducible first | exact HB.out | apply below_alloc | apply pw_below_drewN | apply below_drew1) | exact HB.out)⟩)
                            · replace c83 := Bool.eq_false_iff.mpr c83
                              subst c83
                              have H1 : (laws_FnRootQuads.j8 kj79 l1) = some true := by rw [if_neg (show ¬ (false = true) by decide)] at H; exact H
                              clear H
                              have H := H1
                              clear H1
                              have H' := Aside0.mk H
                              clear H
                              go_wp2
                              go_meet
                              case rel => exact ⟨_, H', ⟨by have := HJ7.out; have := HJ16.out; have := HK3.out; have := HJ79.out; first | omega | exact Nat.le_refl _⟩, ⟨by repeat (first | (with_reducible first | exact HB.out | apply below_alloc | apply pw_below_drewN | apply below_drew1) | exact HB.out)⟩⟩
                          case rest =>
                            clear HC82
                            try clear c1
                            try clear c2
                            try clear p2
                            try clear q2
                            try clear hx2
                            try clear qi2
                            try clear c3
                            try clear p3
                            try clear q3
                            try clear hx3
                            try clear qi3
                            try clear c4
                            try clear c5
                            try clear c6
                            try clear p6
                            try clear c7
                            try clear c8
                            try clear c9
                            try clear c10
                            try clear c11
                            try clear c12
                            try clear c12b0
                            try clear c12b1
                            try clear c12b2
                            try clear c16
                            try clear c18
                            try clear c20
                            try clear c22
                            try clear c22b0
                            try clear c23
                            try clear c23b0
                            try clear c24
                            try clear c24b0
                            try clear c28
                            try clear p28
                            try clear q28
                            try clear hx28
                            try clear c29
                            try clear p29
                            try clear q29
                            try clear hx29
                            try clear qi29
                            try clear c30
                            try clear p30
                            try clear q30
                            try clear hx30
                            try clear qi30
                            try clear c32
                            try clear c33
                            try clear c34
                            try clear c34b0
                            try clear c34b1
                            try clear c35
                            try clear c35b0
                            try clear c35b1
                            try clear c36
                            try clear c36b0
                            try clear c36b1
                            try clear c37
                            try clear c37b0
                            try clear c39
                            try clear c39b0
                            try clear c40
                            try clear c40b0
                            try clear c42
                            try clear p64
                            try clear c81
                            try clear c83
                            try clear c84
                            try clear c84b0
                            try clear c85
                            try clear c85b0
                            try clear c86
                            try clear c86b0
                            try clear c89
                            try clear c90
                            try clear c91
                            try clear c92
                            try clear c92b0
                            try clear c92b1
                            try clear c118
                            try clear c118b0
                            try clear c119
                            try clear c119b0
                            try clear c120
                            try clear c120b0
                            try clear c121
                            try clear c121b0
                            try clear c121b1
                            try clear c122
                            try clear c122b0
                            try clear c123
                            try clear c123b0
                            try clear c123b1
                            try clear hx280_0
                            try clear hx290_0
                            try clear hx291_0
                            try clear hx300_0
                            try clear hx301_0
                            try clear p2
                            try clear p28
                            try clear p280
                            try clear p29
                            try clear p290
                            try clear p291
                            try clear p300
                            try clear p301
                            try clear p6
                            try clear p64
                            try clear q2
                            try clear q28
                            try clear q280
                            try clear q29
                            try clear q290
                            try clear q291
                            try clear q300
                            try clear q301
                            obtain ⟨kq, HA, HJ81, HB⟩ := hcut
                            cases kq with
                            | zero => exact absurd HA.out (by simp [laws_FnRootQuads.j8])
                            | succ kj81 =>
                              have H := HA.out
                              clear HA
                              simp only [laws_FnRootQuads.j8] at H
                              replace H := Option.bind_eq_some_iff.mp H
                              obtain ⟨t302, A1240, H⟩ := H
                              replace H : ((impl_AllRootsUpTo.f kj81 t302).bind fun bt303 => ((spec_AllRootsUpTo.f kj81 t302).bind fun bt307 => (if (bt303.2 != bt307.2) = true then (laws_FnRootQuads.j9 kj81 t302 bt303.1 bt303.2 true) else ((laws_dLists.f kj81 bt303.1 bt307.1).bind fun t311 => (laws_FnRootQuads.j9 kj81 t302 bt303.1 bt303.2 (!t311)))))) = some true := H
                              have A124 := Aside0.mk A1240
                              clear A1240
                              replace H := Option.bind_eq_some_iff.mp H
                              obtain ⟨⟨t303, t306⟩, A1250, H⟩ := H
                              replace H : ((spec_AllRootsUpTo.f kj81 t302).bind fun bt307 => (if (t306 != bt307.2) = true then (laws_FnRootQuads.j9 kj81 t302 t303 t306 true) else ((laws_dLists.f kj81 t303 bt307.1).bind fun t311 => (laws_FnRootQuads.j9 kj81 t302 t303 t306 (!t311))))) = some true := H
                              have A125 := Aside0.mk A1250
                              clear A1250
                              replace H := Option.bind_eq_some_iff.mp H
                              obtain ⟨⟨t307, t310⟩, A1260, H⟩ := H
                              replace H : (if (t306 != t310) = true then (laws_FnRootQuads.j9 kj81 t302 t303 t306 true) else ((laws_dLists.f kj81 t303 t307).bind fun t311 => (laws_FnRootQuads.j9 kj81 t302 t303 t306 (!t311)))) = some true := H
                              have A126 := Aside0.mk A1260
                              clear A1260
                              have HC127 := Aside0.mk H
                              clear H
                              go_upto_region 47 with (first | ((with_reducible refine gate_callee (f := 14) rfl ?_); refine goesL_ (some 203) rfl rfl Try.func14 (by kernel_rfl) rfl #[.slice A1 l1.length c1] rfl (by (try simp only [List.map_toArray, List.map_cons, List.map_nil]); first | done | rfl | (simp only [List.length_drop, List.length_take]; rfl)) ?_; (with_reducible refine (spec_DrawAllRootsUpTo.calls _ _ l1 t302 _ ?side1 ?side2 A124.out).mono ?_); (case side1 => repeat (first | exact (Kd.C_below HR1.out HB.out) | (with_reducible refine Kd.C_alloc ?_ _) | (with_reducible refine Kd.C_drewN ?_ _) | (with_reducible refine Kd.C_drew ?_))); (case side2 => exact HC1.out); rintro e w128 ⟨rfl, hb⟩; refine ⟨_, rfl, ?_⟩; have n0_ := Aside0.mk (below_step (by repeat (first | (with_reducible first | exact HB.out | apply below_alloc | apply pw_below_drewN | apply below_drew1) | exact HB.out)) hb); clear HB; have HB := n0_; clear n0_; (try clear hb); (try clear hb2); (try clear hk); (try clear hi)) | ((with_reducible refine gate_callee (f := 15) rfl ?_); refine goesL_ (some 206) rfl rfl Try.func15 (by kernel_rfl) rfl #[.int .i64 t302] rfl (by (try simp only [List.map_toArray, List.map_cons, List.map_nil]); first | done | rfl | (simp only [List.length_drop, List.length_take]; rfl)) ?_; (with_reducible refine (impl_AllRootsUpTo.calls kj81 t302 t303 t306 _ A125.out).mono ?_); rintro e w129 ⟨v304, rfl, ho0, hb⟩; replace ho0 := Kd.S_N ho0; refine ⟨_, rfl, ?_⟩; have n0_ := Aside0.mk (Kd.N_lower (Kd.N_mono (ok' := fun k_ => True) ho0 (fun k_ hk_ => trivial)) (below_size (by repeat (first | (with_reducible first | exact HB.out | apply below_alloc | apply pw_below_drewN | apply below_drew1) | exact HB.out)))); have n1_ := Aside0.mk (below_step (by repeat (first | (with_reducible first | exact HB.out | apply below_alloc | apply pw_below_drewN | apply below_drew1) | exact HB.out)) hb); clear HB; have HO305 := n0_; have HB := n1_; clear n0_ n1_; (try clear hb); (try clear hb2); (try clear hk); (try clear hi); (try clear ho0)) | ((with_reducible refine gate_callee (f := 16) rfl ?_); refine goesL_ (some 211) rfl rfl Try.func16 (by kernel_rfl) rfl #[.int .i64 t302] rfl (by (try simp only [List.map_toArray, List.map_cons, List.map_nil]); first | done | rfl | (simp only [List.length_drop, List.length_take]; rfl)) ?_; (with_reducible refine (spec_AllRootsUpTo.calls kj81 t302 t307 t310 _ A126.out).mono ?_); rintro e w130 ⟨v308, rfl, ho0, hb⟩; refine ⟨_, rfl, ?_⟩; have n0_ := Aside0.mk (Kd.N_elder' (by (with_reducible repeat (first | apply Kd.N_alloc | apply Kd.N_drewN | apply Kd.N_drew)); exact HO305.out) (by first | exact Kd.N_base ho0 | exact Kd.S_base ho0) hb); have n1_ := Aside0.mk (Kd.N_lower (Kd.N_mono (ok' := fun k_ => some k_ ≠ (v304 : Value).ownBlock) ho0 (fun k_ hk_ => (Kd.fresh' (Kd.N_lt (by (with_reducible repeat (first | apply Kd.N_alloc | apply Kd.N_drewN | apply Kd.N_drew)); exact HO305.out)) k_ hk_))) (below_size (by repeat (first | (with_reducible first | exact HB.out | apply below_alloc | apply pw_below_drewN | apply below_drew1) | exact HB.out)))); have n2_ := Aside0.mk (below_step (by repeat (first | (with_reducible first | exact HB.out | apply below_alloc | apply pw_below_drewN | apply below_drew1) | exact HB.out)) hb); clear HO305; clear HB; have HO305 := n0_; have HO309 := n1_; have HB := n2_; clear n0_ n1_ n2_; (try clear hb); (try clear hb2); (try clear hk); (try clear hi); (try clear ho0)))
                              (try simp only [Act.put, List.setIfInBounds_toArray, List.set_cons_zero, List.set_cons_succ])
                              go_cut [222] (fun v222 wc => ∃ (kq : Nat) (x222_126 : Bool), v222 = .bool x222_126 ∧ Aside0 (laws_FnRootQuads.j9 kq t302 t303 t306 x222_126 = some true) ∧ Aside0 (kq ≤ kj81) ∧ Aside0 (Kd.N (Kd.slice 3 (Kd.int .i64)) 29 wc w.heap.size (fun _ => True) v304 t303) ∧ Aside0 (Below w.heap.size w wc))
                              case first => as_aux_lemma =>
                                have H := HC127.out
                                clear HC127
                                by_cases c131 : (t306 != t310) = true
                                · rw [if_pos c131] at H
                                  have c131b0 : (t306 != t310) = true := c131
                                  (try (have c131b1 : decide (t306 = t310) = false := by simpa using c131))
                                  (try (have c131b2 : (t306 == t310) = false := by simpa using c131))
                                  (try (have c131b3 : ¬ (t306 = t310) := by simpa using c131))
                                  clear c131
                                  (first | rw [c131b0] | (simp only [i64_w, i32_w]; rw [c131b0]) | rw [c131b1] | skip)
                                  have H' := Aside0.mk H
                                  clear H
                                  go_wp2
                                  go_meet
                                  case rel => exact ⟨_, (true), (by first | rfl | (simp; done) | (simp [*]; done)), H', ⟨by have := HJ7.out; have := HJ16.out; have := HK3.out; have := HJ79.out; have := HJ81.out; first | omega | exact Nat.le_refl _⟩, ⟨by (with_reducible repeat (first | apply Kd.N_alloc | apply Kd.N_drewN | apply Kd.N_drew)); exact Kd.N_mono HO305.out (fun _ hk => trivial)⟩, ⟨by repeat (first | (with_reducible first | exact HB.out | apply below_alloc | apply pw_below_drewN | apply below_drew1) | exact HB.out)⟩⟩
                                · rw [if_neg c131] at H
                                  have c131b0 : (t306 != t310) = false := by simpa using c131
                                  (try (have c131b1 : decide (t306 = t310) = true := by simpa using c131))
                                  (try (have c131b2 : (t306 == t310) = true := by simpa using c131))
                                  clear c131
                                  (first | rw [c131b0] | (simp only [i64_w, i32_w]; rw [c131b0]) | rw [c131b1] | skip)
                                  replace H := Option.bind_eq_some_iff.mp H
                                  obtain ⟨t311, A1320, H⟩ := H
                                  replace H : (laws_FnRootQuads.j9 kj81 t302 t303 t306 (!t311)) = some true := H
                                  have A132 := Aside0.mk A1320
                                  clear A1320
                                  have H' := Aside0.mk H
                                  clear H
                                  obtain ⟨Ao133, co133, eo133⟩ := Kd.N_slice HO305.out
                                  subst eo133
                                  obtain ⟨Ao134, co134, eo134⟩ := Kd.N_slice HO309.out
                                  subst eo134
                                  go_wp2_with (first | (go_at_call 8; (with_reducible refine (laws_dLists.calls kj81 _ _ t303 _ _ t307 t311 _ ?side1 ?side2 ?side3 ?side4 A132.out).mono ?_); (case side1 => repeat (first | exact (Kd.N_reads' HO305.out).2.2 | (with_reducible refine Kd.C_alloc ?_ _) | (with_reducible refine Kd.C_drewN ?_ _) | (with_reducible refine Kd.C_drew ?_))); (case side2 => exact (Kd.N_reads' HO305.out).2.1); (case side3 => repeat (first | exact (Kd.N_reads' HO309.out).2.2 | (with_reducible refine Kd.C_alloc ?_ _) | (with_reducible refine Kd.C_drewN ?_ _) | (with_reducible refine Kd.C_drew ?_))); (case side4 => exact (Kd.N_reads' HO309.out).2.1); rintro e w' ⟨rfl, ⟨nd, rfl⟩⟩))
                                  go_meet
                                  case rel => exact ⟨_, (!t311), (by first | rfl | (simp; done) | (simp [*]; done)), H', ⟨by have := HJ7.out; have := HJ16.out; have := HK3.out; have := HJ79.out; have := HJ81.out; first | omega | exact Nat.le_refl _⟩, ⟨by (with_reducible repeat (first | apply Kd.N_alloc | apply Kd.N_drewN | apply Kd.N_drew)); exact Kd.N_mono HO305.out (fun _ hk => trivial)⟩, ⟨by repeat (first | (with_reducible first | exact HB.out | apply below_alloc | apply pw_below_drewN | apply below_drew1) | exact HB.out)⟩⟩
                              case rest =>
                                clear HC127
                                try clear c1
                                try clear c2
                                try clear p2
                                try clear q2
                                try clear hx2
                                try clear qi2
                                try clear c3
                                try clear p3
                                try clear q3
                                try clear hx3
                                try clear qi3
                                try clear c4
                                try clear c5
                                try clear c6
                                try clear p6
                                try clear c7
                                try clear c8
                                try clear c9
                                try clear c10
                                try clear c11
                                try clear c12
                                try clear c12b0
                                try clear c12b1
                                try clear c12b2
                                try clear c13
                                try clear c14
                                try clear c15
                                try clear c16
                                try clear c18
                                try clear c20
                                try clear c22
                                try clear c22b0
                                try clear c23
                                try clear c23b0
                                try clear c24
                                try clear c24b0
                                try clear c28
                                try clear p28
                                try clear q28
                                try clear hx28
                                try clear c29
                                try clear p29
                                try clear q29
                                try clear hx29
                                try clear qi29
                                try clear c30
                                try clear p30
                                try clear q30
                                try clear hx30
                                try clear qi30
                                try clear c32
                                try clear c33
                                try clear c34
                                try clear c34b0
                                try clear c34b1
                                try clear c35
                                try clear c35b0
                                try clear c35b1
                                try clear c36
                                try clear c36b0
                                try clear c36b1
                                try clear c37
                                try clear c37b0
                                try clear c39
                                try clear c39b0
                                try clear c40
                                try clear c40b0
                                try clear c42
                                try clear p64
                                try clear c81
                                try clear c83
                                try clear c84
                                try clear c84b0
                                try clear c85
                                try clear c85b0
                                try clear c86
                                try clear c86b0
                                try clear c89
                                try clear c90
                                try clear c91
                                try clear c92
                                try clear c92b0
                                try clear c92b1
                                try clear c118
                                try clear c118b0
                                try clear c119
                                try clear c119b0
                                try clear c120
                                try clear c120b0
                                try clear c121
                                try clear c121b0
                                try clear c121b1
                                try clear c122
                                try clear c122b0
                                try clear c123
                                try clear c123b0
                                try clear c123b1
                                try clear c131
                                try clear c131b0
                                try clear c131b1
                                try clear c131b2
                                try clear hx280_0
                                try clear hx290_0
                                try clear hx291_0
                                try clear hx300_0
                                try clear hx301_0
                                try clear p2
                                try clear p28
                                try clear p280
                                try clear p29
                                try clear p290
                                try clear p291
                                try clear p3
                                try clear p30
                                try clear p300
                                try clear p301
                                try clear p6
                                try clear p64
                                try clear q2
                                try clear q28
                                try clear q280
                                try clear q29
                                try clear q290
                                try clear q291
                                try clear q3
                                try clear q30
                                try clear q300
                                try clear q301
                                obtain ⟨kq, x222_126, rfl, HA, HJ126, HO_31, HB⟩ := hcut
                                cases kq with
                                | zero => exact absurd HA.out (by simp [laws_FnRootQuads.j9])
                                | succ kj126 =>
                                  have H := HA.out
                                  clear HA
                                  simp only [laws_FnRootQuads.j9] at H
                                  by_cases c135 : x222_126 = true
                                  · subst c135
                                    have H1 : (some false) = some true := by rw [if_pos rfl] at H; exact H
                                    clear H
                                    have H := H1
                                    clear H1
                                    exact absurd (Option.some.inj H) (by decide)
                                  · replace c135 := Bool.eq_false_iff.mpr c135
                                    subst c135
                                    have H1 : (if t306 = true then (laws_FnRootQuads.l5 kj126 t302 t303 0 1) else (some true)) = some true := by rw [if_neg (show ¬ (false = true) by decide)] at H; exact H
                                    clear H
                                    have H := H1
                                    clear H1
                                    by_cases c136 : t306 = true
                                    · subst c136
                                      have H1 : (laws_FnRootQuads.l5 kj126 t302 t303 0 1) = some true := by rw [if_pos rfl] at H; exact H
                                      clear H
                                      have H := H1
                                      clear H1
                                      have H' := Aside0.mk H
                                      clear H
                                      go_wp2
                                      go_loopg [35, 36] kj126 (fun kq v35 v36 w' => ∃ (x35_7 : Int) (x36_7 : Int), v35 = .int .i64 x35_7 ∧ v36 = .int .i64 x36_7 ∧ Aside0 (laws_FnRootQuads.l5 kq t302 t303 x35_7 x36_7 = some true) ∧ Aside0 (kq ≤ kj126) ∧ Aside0 (Kd.N (Kd.slice 3 (Kd.int .i64)) 29 w' w.heap.size (fun _ => True) v304 t303) ∧ Aside0 (Below w.heap.size w w'))
                                      case atStart => exact ⟨(0), (1), (by first | rfl | (simp; done) | (simp [*]; done)), (by first | rfl | (simp; done) | (simp [*]; done)), H', ⟨Nat.le_refl _⟩, ⟨by (with_reducible repeat (first | apply Kd.N_alloc | apply Kd.N_drewN | apply Kd.N_drew)); exact HO_31.out⟩, ⟨by repeat (first | (with_reducible first | exact HB.out | apply below_alloc | apply pw_below_drewN | apply below_drew1) | exact HB.out)⟩⟩
                                      case round =>
                                        clear H'
                                        try clear c1
                                        try clear c2
                                        try clear p2
                                        try clear q2
                                        try clear hx2
                                        try clear qi2
                                        try clear c3
                                        try clear p3
                                        try clear q3
                                        try clear hx3
                                        try clear qi3
                                        try clear c4
                                        try clear c5
                                        try clear c6
                                        try clear p6
                                        try clear c7
                                        try clear c8
                                        try clear c9
                                        try clear c10
                                        try clear c11
                                        try clear c12
                                        try clear c12b0
                                        try clear c12b1
                                        try clear c12b2
                                        try clear c13
                                        try clear c14
                                        try clear c15
                                        try clear c16
                                        try clear c18
                                        try clear c20
                                        try clear c22
                                        try clear c22b0
                                        try clear c23
                                        try clear c23b0
                                        try clear c24
                                        try clear c24b0
                                        try clear c28
                                        try clear p28
                                        try clear q28
                                        try clear hx28
                                        try clear c29
                                        try clear p29
                                        try clear q29
                                        try clear hx29
                                        try clear qi29
                                        try clear c30
                                        try clear p30
                                        try clear q30
                                        try clear hx30
                                        try clear qi30
                                        try clear c32
                                        try clear c33
                                        try clear c34
                                        try clear c34b0
                                        try clear c34b1
                                        try clear c35
                                        try clear c35b0
                                        try clear c35b1
                                        try clear c36
                                        try clear c36b0
                                        try clear c36b1
                                        try clear c37
                                        try clear c37b0
                                        try clear c39
                                        try clear c39b0
                                        try clear c40
                                        try clear c40b0
                                        try clear c42
                                        try clear p64
                                        try clear c81
                                        try clear c83
                                        try clear c84
                                        try clear c84b0
                                        try clear c85
                                        try clear c85b0
                                        try clear c86
                                        try clear c86b0
                                        try clear c89
                                        try clear c90
                                        try clear c91
                                        try clear c92
                                        try clear c92b0
                                        try clear c92b1
                                        try clear c118
                                        try clear c118b0
                                        try clear c119
                                        try clear c119b0
                                        try clear c120
                                        try clear c120b0
                                        try clear c121
                                        try clear c121b0
                                        try clear c121b1
                                        try clear c122
                                        try clear c122b0
                                        try clear c123
                                        try clear c123b0
                                        try clear c123b1
                                        try clear c131
                                        try clear c131b0
                                        try clear c131b1
                                        try clear c131b2
                                        try clear c135
                                        try clear c136
                                        try clear hx280_0
                                        try clear hx290_0
                                        try clear hx291_0
                                        try clear hx300_0
                                        try clear hx301_0
                                        try clear p2
                                        try clear p28
                                        try clear p280
                                        try clear p29
                                        try clear p290
                                        try clear p291
                                        try clear p3
                                        try clear p30
                                        try clear p300
                                        try clear p301
                                        try clear p6
                                        try clear p64
                                        try clear q2
                                        try clear q28
                                        try clear q280
                                        try clear q29
                                        try clear q290
                                        try clear q291
                                        try clear q3
                                        try clear q30
                                        try clear q300
                                        try clear q301
                                        obtain ⟨x35_7, x36_7, rfl, rfl, HA, HK7, HO_31, HB⟩ := hrel
                                        cases gk with
                                        | zero => exact absurd HA.out (by simp [laws_FnRootQuads.l5])
                                        | succ k7 =>
                                          have H := HA.out
                                          clear HA
                                          simp only [laws_FnRootQuads.l5] at H
                                          by_cases c137 : x36_7 ≤ t302
                                          · rw [if_pos c137] at H
                                            have c137b0 : decide (x36_7 ≤ t302) = true := decide_eq_true c137
                                            clear c137
                                            replace H := Option.bind_eq_some_iff.mp H
                                            obtain ⟨⟨t312, t313⟩, A1380, H⟩ := H
                                            replace H : (if t313 = true then (laws_FnRootQuads.l5 k7 t302 t303 (wrap64 (x35_7 + (t312.length : Int))) (wrap64 (x36_7 + 1))) else (some false)) = some true := H
                                            have A138 := Aside0.mk A1380
                                            clear A1380
                                            by_cases c139 : t313 = true
                                            · subst c139
                                              have H1 : (laws_FnRootQuads.l5 k7 t302 t303 (wrap64 (x35_7 + (t312.length : Int))) (wrap64 (x36_7 + 1))) = some true := by rw [if_pos rfl] at H; exact H
                                              clear H
                                              have H := H1
                                              clear H1
                                              have H' := Aside0.mk H
                                              clear H
                                              go_wp2_with (first | ((with_reducible refine gate_callee (f := 6) rfl ?_); refine goesL_ (some 231) rfl rfl Try.func6 (by kernel_rfl) rfl #[.int .i64 x36_7] rfl (by (try simp only [List.map_toArray, List.map_cons, List.map_nil]); first | done | rfl | (simp only [List.length_drop, List.length_take]; rfl)) ?_; (with_reducible refine (impl_RootsWith.calls k7 x36_7 t312 true _ A138.out).mono ?_); rintro e w140 ⟨v314, rfl, ho0, hb⟩; refine ⟨_, rfl, ?_⟩; have n0_ := Aside0.mk (Kd.N_elder' (by (with_reducible repeat (first | apply Kd.N_alloc | apply Kd.N_drewN | apply Kd.N_drew)); exact HO_31.out) (by first | exact Kd.N_base ho0 | exact Kd.S_base ho0) hb); have n1_ := Aside0.mk (Kd.N_lower (Kd.N_mono (ok' := fun k_ => some k_ ≠ (v304 : Value).ownBlock) (Kd.S_N (Kd.S_bound ho0)) (fun k_ hk_ => (Kd.fresh' (Kd.N_lt (by (with_reducible repeat (first | apply Kd.N_alloc | apply Kd.N_drewN | apply Kd.N_drew)); exact HO_31.out)) k_ hk_.2.1))) (below_size (by repeat (first | (with_reducible first | exact HB.out | apply below_alloc | apply pw_below_drewN | apply below_drew1) | exact HB.out)))); have n2_ := Aside0.mk (below_step (by repeat (first | (with_reducible first | exact HB.out | apply below_alloc | apply pw_below_drewN | apply below_drew1) | exact HB.out)) hb); clear HO_31; clear HB; have HO_31 := n0_; have HO315 := n1_; have HB := n2_; clear n0_ n1_ n2_; (try clear hb); (try clear hb2); (try clear hk); (try clear hi); (try clear ho0); obtain ⟨Ao141, co141, eo141⟩ := Kd.N_slice HO315.out; subst eo141))
                                              go_roundg k7
                                              case measure => have := HJ7.out; have := HJ16.out; have := HK3.out; have := HJ79.out; have := HJ81.out; have := HJ126.out; have := HK7.out; omega
                                              case rel => exact ⟨(wrap64 (x35_7 + (t312.length : Int))), (wrap64 (x36_7 + 1)), (by first | rfl | (simp; done) | (simp [*]; done)), (by first | rfl | (simp; done) | (simp [*]; done)), H', ⟨by have := HJ7.out; have := HJ16.out; have := HK3.out; have := HJ79.out; have := HJ81.out; have := HJ126.out; have := HK7.out; omega⟩, ⟨by (with_reducible repeat (first | apply Kd.N_alloc | apply Kd.N_drewN | apply Kd.N_drew)); exact Kd.N_mono HO_31.out (fun _ hk => trivial)⟩, ⟨by repeat (first | (with_reducible first | exact HB.out | apply below_alloc | apply pw_below_drewN | apply below_drew1) | exact HB.out)⟩⟩
                                            · replace c139 := Bool.eq_false_iff.mpr c139
                                              subst c139
                                              have H1 : (some false) = some true := by rw [if_neg (show ¬ (false = true) by decide)] at H; exact H
                                              clear H
                                              have H := H1
                                              clear H1
                                              exact absurd (Option.some.inj H) (by decide)
                                          · rw [if_neg c137] at H
                                            have c137b0 : decide (x36_7 ≤ t302) = false := decide_eq_false c137
                                            clear c137
                                            first | (exact absurd (Option.some.inj H) (by decide)) | (obtain rfl := Option.some.inj H; obtain ⟨Ao143, co143, eo143⟩ := Kd.N_slice HO_31.out; subst eo143; go_wp2; go_ret; exact ⟨by first | rfl | (simp [errW_none, errW_some] <;> rfl) | (simp [*, errW_none, errW_some] <;> rfl), by repeat (first | (with_reducible first | exact HB.out | apply below_alloc | apply pw_below_drewN | apply below_drew1) | exact HB.out)⟩) | (have he_ := Option.some.inj H; have hq_ := beq_iff_eq.mp he_; obtain ⟨Ao143, co143, eo143⟩ := Kd.N_slice HO_31.out; subst eo143; go_wp2; go_ret; exact ⟨by first | rfl | (simp [errW_none, errW_some] <;> rfl) | (simp [*, errW_none, errW_some] <;> rfl), by repeat (first | (with_reducible first | exact HB.out | apply below_alloc | apply pw_below_drewN | apply below_drew1) | exact HB.out)⟩)
                                    · replace c136 := Bool.eq_false_iff.mpr c136
                                      subst c136
                                      have H1 : (some true) = some true := rfl
                                      clear H
                                      have H := H1
                                      clear H1
                                      clear H
                                      go_wp2
                                      go_ret
                                      exact ⟨by first | rfl | (simp [errW_none, errW_some] <;> rfl) | (simp [*, errW_none, errW_some] <;> rfl), by repeat (first | (with_reducible first | exact HB.out | apply below_alloc | apply pw_below_drewN | apply below_drew1) | exact HB.out)⟩

/-- THE ONE PURE STATEMENT of laws_FnRootQuads: yours. -/
def laws_FnRootQuads.Pure : Prop := ∀ (l0 : List Int) (l1 : List Int), l0.length ≤ maxLen → l0.length * 1 ≤ 140737488351232 → (∀ x ∈ l0, (Lit.int .u8 x).wf = true) → l1.length ≤ maxLen → l1.length * 1 ≤ 140737488351232 → (∀ x ∈ l1, (Lit.int .u8 x).wf = true) → ∃ k, laws_FnRootQuads.f k l0 l1 = some true
theorem laws_FnRootQuads.walk (P : laws_FnRootQuads.Pure) (a0 : Option Addr) (len0 cap0 : Nat) (z0 : List Int) (a1 : Option Addr) (len1 cap1 : Nat) (z1 : List Int) (w : World) (w0 : (a0 = none ∧ len0 = 0 ∧ cap0 = 0 ∧ z0 = []) ∨ ∃ x, a0 = some x ∧ len0 ≤ cap0 ∧ cap0 ≤ maxLen ∧ z0.length = cap0 ∧ (∀ i, i < z0.length → w.cell? (x.add i) = some (.int .u8 (z0.getD i 0))) ∧ ∀ n ∈ z0, (Lit.int .u8 n).wf = true) (y0 : len0 * 1 ≤ 140737488351232) (w1 : (a1 = none ∧ len1 = 0 ∧ cap1 = 0 ∧ z1 = []) ∨ ∃ x, a1 = some x ∧ len1 ≤ cap1 ∧ cap1 ≤ maxLen ∧ z1.length = cap1 ∧ (∀ i, i < z1.length → w.cell? (x.add i) = some (.int .u8 (z1.getD i 0))) ∧ ∀ n ∈ z1, (Lit.int .u8 n).wf = true) (y1 : len1 * 1 ≤ 140737488351232) :
    Calls Try.prog 3 #[.slice a0 len0 cap0, .slice a1 len1 cap1] w fun e w' => e = .returned (.bool true) ∧ Below w.heap.size w w' := by
  obtain ⟨l0, rfl, hr0, hm0, hw0, hc0⟩ := ReadsInt.ofRowC w0
  obtain ⟨l1, rfl, hr1, hm1, hw1, hc1⟩ := ReadsInt.ofRowC w1
  obtain ⟨k, h⟩ := P l0 l1 hm0 y0 hw0 hm1 y1 hw1
  refine (laws_FnRootQuads.calls k _ _ l0 _ _ l1 true w (Kd.C_of_reads (d := (0 : Int)) (h1 := fun _ => rfl) hr0) hc0 (Kd.C_of_reads (d := (0 : Int)) (h1 := fun _ => rfl) hr1) hc1 h).mono ?_
  rintro e w' ⟨rfl, hd⟩
  exact ⟨rfl, hd⟩

end Go.Proofs.Ytgjgoeodhioeiaa.P
