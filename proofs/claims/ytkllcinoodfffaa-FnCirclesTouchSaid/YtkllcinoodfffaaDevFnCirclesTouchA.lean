import Derived.Test.YtkllcinoodfffaaP0
import Derived.Test.YtkllcinoodfffaaP1
import Derived.Test.YtkllcinoodfffaaP6
import Derived.Test.YtkllcinoodfffaaP7
import Derived.Test.YtkllcinoodfffaaP8
import Derived.Test.YtkllcinoodfffaaP9
import Derived.Test.YtkllcinoodfffaaP10
namespace Go.Proofs.Ytkllcinoodfffaa.P
open Go.RowKit Go.Proofs.YtkllcinoodfffaaW.PrintWords Go.Proofs.YtkllcinoodfffaaW.PrintLast Go.Proofs.YtkllcinoodfffaaW.PrintMore
set_option linter.unusedVariables false
set_option linter.unusedSimpArgs false
attribute [local go_sem] max2_int min2_int max_two min_two max_three min_three max_four min_four
/-! ### laws_FnCirclesTouch: function 3 -/
mutual
def laws_FnCirclesTouch.j0 : Nat → List Int → Int → Bool → Bool → Int → Int → Int → Int → Int → Int → Int → Int → Option (Bool)
  | 0, _, _, _, _, _, _, _, _, _, _, _, _ => none
  | k + 1, x1, x7, x8, x115, x394000, x394001, x394002, x394003, x395000, x395001, x395002, x395003 => if x115 = true then (some false) else (if x8 = true then ((impl_TwiceProduct.f x394000 x394001 x394002 x394003 x394000 x394001 x394002 x394003).bind fun bt403 => ((impl_TurnCircle.f x394000 x394001 x394002 x394003).bind fun bt405 => ((impl_TurnCircle.f x395000 x395001 x395002 x395003).bind fun bt411 => ((impl_TwiceProduct.f bt405.1 bt405.2.1 bt405.2.2.1 bt405.2.2.2.1 bt411.1 bt411.2.1 bt411.2.2.1 bt411.2.2.2.1).bind fun bt417 => ((impl_FlipCircle.f x394000 x394001 x394002 x394003).bind fun bt419 => ((impl_FlipCircle.f x395000 x395001 x395002 x395003).bind fun bt425 => ((impl_TwiceProduct.f bt419.1 bt419.2.1 bt419.2.2.1 bt419.2.2.2.1 bt425.1 bt425.2.1 bt425.2.2.1 bt425.2.2.2.1).bind fun bt431 => (if bt403.2 = true then (if bt403.1 = 2 then (if bt405.2.2.2.2 = true then (if bt411.2.2.2.2 = true then (if bt417.2 = true then (if bt417.1 = x7 then (if bt419.2.2.2.2 = true then (if bt425.2.2.2.2 = true then (if bt431.2 = true then (if bt431.1 = x7 then (laws_FnCirclesTouch.j1 k x1 x394000 x394001 x394002 x394003) else (some false)) else (some false)) else (some false)) else (some false)) else (some false)) else (some false)) else (some false)) else (some false)) else (some false)) else (some false))))))))) else (laws_FnCirclesTouch.j1 k x1 x394000 x394001 x394002 x394003))
def laws_FnCirclesTouch.j1 : Nat → List Int → Int → Int → Int → Int → Option (Bool)
  | 0, _, _, _, _, _ => none
  | k + 1, x1, x394000, x394001, x394002, x394003 => (spec_DrawShiftCircle.f k x1).bind fun bt433 => ((impl_ShiftCircle.f bt433.1 bt433.2.1 bt433.2.2.1 bt433.2.2.2.1 bt433.2.2.2.2.1 bt433.2.2.2.2.2).bind fun bt440 => ((spec_ShiftCircle.f k bt433.1 bt433.2.1 bt433.2.2.1 bt433.2.2.2.1 bt433.2.2.2.2.1 bt433.2.2.2.2.2).bind fun bt446 => (if (bt440.2.2.2.2 != bt446.2.2.2.2) = true then (laws_FnCirclesTouch.j2 k x1 bt433.2.2.2.2.1 bt433.2.2.2.2.2 bt440.2.2.2.2 true x394000 x394001 x394002 x394003 bt433.1 bt433.2.1 bt433.2.2.1 bt433.2.2.2.1 bt440.1 bt440.2.1 bt440.2.2.1 bt440.2.2.2.1) else (laws_FnCirclesTouch.j2 k x1 bt433.2.2.2.2.1 bt433.2.2.2.2.2 bt440.2.2.2.2 (!(bt440.1 == bt446.1) || (!(bt440.2.1 == bt446.2.1) || (!(bt440.2.2.1 == bt446.2.2.1) || (!(bt440.2.2.2.1 == bt446.2.2.2.1))))) x394000 x394001 x394002 x394003 bt433.1 bt433.2.1 bt433.2.2.1 bt433.2.2.2.1 bt440.1 bt440.2.1 bt440.2.2.1 bt440.2.2.2.1))))
def laws_FnCirclesTouch.j2 : Nat → List Int → Int → Int → Bool → Bool → Int → Int → Int → Int → Int → Int → Int → Int → Int → Int → Int → Int → Option (Bool)
  | 0, _, _, _, _, _, _, _, _, _, _, _, _, _, _, _, _, _ => none
  | k + 1, x1, x30, x31, x33, x222, x394000, x394001, x394002, x394003, x440000, x440001, x440002, x440003, x446000, x446001, x446002, x446003 => if x222 = true then (some false) else (if x33 = true then ((impl_ShiftCircle.f x446000 x446001 x446002 x446003 (wrap64 (-x30)) (wrap64 (-x31))).bind fun bt452 => ((impl_IsCircle.f x446000 x446001 x446002 x446003).bind fun t458 => (if t458 = true then (if bt452.2.2.2.2 = true then (laws_FnCirclesTouch.j3 k x1 x30 x31 (!(bt452.1 == x440000) || (!(bt452.2.1 == x440001) || (!(bt452.2.2.1 == x440002) || (!(bt452.2.2.2.1 == x440003))))) x394000 x394001 x394002 x394003 x440000 x440001 x440002 x440003 x446000 x446001 x446002 x446003) else (laws_FnCirclesTouch.j3 k x1 x30 x31 true x394000 x394001 x394002 x394003 x440000 x440001 x440002 x440003 x446000 x446001 x446002 x446003)) else (laws_FnCirclesTouch.j3 k x1 x30 x31 true x394000 x394001 x394002 x394003 x440000 x440001 x440002 x440003 x446000 x446001 x446002 x446003)))) else (laws_FnCirclesTouch.j4 k x1))
def laws_FnCirclesTouch.j4 : Nat → List Int → Option (Bool)
  | 0, _ => none
  | k + 1, x1 => (spec_DrawReflectCircle.f k x1).bind fun bt469 => ((impl_ReflectCircle.f bt469.1 bt469.2.1 bt469.2.2.1 bt469.2.2.2.1 bt469.2.2.2.2.1 bt469.2.2.2.2.2.1 bt469.2.2.2.2.2.2.1 bt469.2.2.2.2.2.2.2).bind fun bt479 => ((spec_ReflectCircle.f k bt469.1 bt469.2.1 bt469.2.2.1 bt469.2.2.2.1 bt469.2.2.2.2.1 bt469.2.2.2.2.2.1 bt469.2.2.2.2.2.2.1 bt469.2.2.2.2.2.2.2).bind fun bt485 => (if (bt479.2.2.2.2 != bt485.2.2.2.2) = true then (laws_FnCirclesTouch.j5 k bt479.2.2.2.2 true bt469.1 bt469.2.1 bt469.2.2.1 bt469.2.2.2.1 bt469.2.2.2.2.1 bt469.2.2.2.2.2.1 bt469.2.2.2.2.2.2.1 bt469.2.2.2.2.2.2.2 bt479.1 bt479.2.1 bt479.2.2.1 bt479.2.2.2.1) else (laws_FnCirclesTouch.j5 k bt479.2.2.2.2 (!(bt479.1 == bt485.1) || (!(bt479.2.1 == bt485.2.1) || (!(bt479.2.2.1 == bt485.2.2.1) || (!(bt479.2.2.2.1 == bt485.2.2.2.1))))) bt469.1 bt469.2.1 bt469.2.2.1 bt469.2.2.2.1 bt469.2.2.2.2.1 bt469.2.2.2.2.2.1 bt469.2.2.2.2.2.2.1 bt469.2.2.2.2.2.2.2 bt479.1 bt479.2.1 bt479.2.2.1 bt479.2.2.2.1))))
def laws_FnCirclesTouch.j5 : Nat → Bool → Bool → Int → Int → Int → Int → Int → Int → Int → Int → Int → Int → Int → Int → Option (Bool)
  | 0, _, _, _, _, _, _, _, _, _, _, _, _, _, _ => none
  | k + 1, x47, x301, x478000, x478001, x478002, x478003, x479000, x479001, x479002, x479003, x485000, x485001, x485002, x485003 => if x301 = true then (some false) else (if x47 = true then ((impl_ReflectCircle.f x485000 x485001 x485002 x485003 x479000 x479001 x479002 x479003).bind fun bt491 => ((impl_IsCircle.f x485000 x485001 x485002 x485003).bind fun t497 => (if t497 = true then (if bt491.2.2.2.2 = true then (some (bt491.1 == x478000 && (bt491.2.1 == x478001 && (bt491.2.2.1 == x478002 && (bt491.2.2.2.1 == x478003))))) else (some false)) else (some false)))) else (some true))
def laws_FnCirclesTouch.j3 : Nat → List Int → Int → Int → Bool → Int → Int → Int → Int → Int → Int → Int → Int → Int → Int → Int → Int → Option (Bool)
  | 0, _, _, _, _, _, _, _, _, _, _, _, _, _, _, _, _ => none
  | k + 1, x1, x30, x31, x244, x394000, x394001, x394002, x394003, x440000, x440001, x440002, x440003, x446000, x446001, x446002, x446003 => if x244 = true then (some false) else ((impl_ShiftCircle.f x394000 x394001 x394002 x394003 x30 x31).bind fun bt459 => ((impl_TwiceProduct.f x394000 x394001 x394002 x394003 x440000 x440001 x440002 x440003).bind fun bt465 => ((impl_TwiceProduct.f bt459.1 bt459.2.1 bt459.2.2.1 bt459.2.2.2.1 x446000 x446001 x446002 x446003).bind fun bt467 => (if bt459.2.2.2.2 = true then (if bt465.2 = true then (if bt467.2 = true then (if bt467.1 = bt465.1 then (laws_FnCirclesTouch.j4 k x1) else (some false)) else (some false)) else (laws_FnCirclesTouch.j4 k x1)) else (laws_FnCirclesTouch.j4 k x1)))))
end
def laws_FnCirclesTouch.f (k : Nat) (l0 : List Int) (l1 : List Int) : Option (Bool) := (laws_big.f l0 l1).bind fun t384 => (if t384 = true then (some true) else ((spec_DrawTwiceProduct.f k l0).bind fun bt385 => ((impl_TwiceProduct.f bt385.1 bt385.2.1 bt385.2.2.1 bt385.2.2.2.1 bt385.2.2.2.2.1 bt385.2.2.2.2.2.1 bt385.2.2.2.2.2.2.1 bt385.2.2.2.2.2.2.2).bind fun bt395 => ((spec_TwiceProduct.f k bt385.1 bt385.2.1 bt385.2.2.1 bt385.2.2.2.1 bt385.2.2.2.2.1 bt385.2.2.2.2.2.1 bt385.2.2.2.2.2.2.1 bt385.2.2.2.2.2.2.2).bind fun bt397 => ((impl_DoTouch.f bt385.1 bt385.2.1 bt385.2.2.1 bt385.2.2.2.1 bt385.2.2.2.2.1 bt385.2.2.2.2.2.1 bt385.2.2.2.2.2.2.1 bt385.2.2.2.2.2.2.2).bind fun bt399 => ((spec_DoTouch.f k bt385.1 bt385.2.1 bt385.2.2.1 bt385.2.2.2.1 bt385.2.2.2.2.1 bt385.2.2.2.2.2.1 bt385.2.2.2.2.2.2.1 bt385.2.2.2.2.2.2.2).bind fun bt401 => (if (bt395.2 != bt397.2) = true then (laws_FnCirclesTouch.j0 k l1 bt395.1 bt395.2 true bt385.1 bt385.2.1 bt385.2.2.1 bt385.2.2.2.1 bt385.2.2.2.2.1 bt385.2.2.2.2.2.1 bt385.2.2.2.2.2.2.1 bt385.2.2.2.2.2.2.2) else (if bt395.1 = bt397.1 then (if (bt399.2 != bt401.2) = true then (laws_FnCirclesTouch.j0 k l1 bt395.1 bt395.2 true bt385.1 bt385.2.1 bt385.2.2.1 bt385.2.2.2.1 bt385.2.2.2.2.1 bt385.2.2.2.2.2.1 bt385.2.2.2.2.2.2.1 bt385.2.2.2.2.2.2.2) else (if (bt399.1 != bt401.1) = true then (laws_FnCirclesTouch.j0 k l1 bt395.1 bt395.2 true bt385.1 bt385.2.1 bt385.2.2.1 bt385.2.2.2.1 bt385.2.2.2.2.1 bt385.2.2.2.2.2.1 bt385.2.2.2.2.2.2.1 bt385.2.2.2.2.2.2.2) else (if (bt399.2 != bt395.2) = true then (laws_FnCirclesTouch.j0 k l1 bt395.1 bt395.2 true bt385.1 bt385.2.1 bt385.2.2.1 bt385.2.2.2.1 bt385.2.2.2.2.1 bt385.2.2.2.2.2.1 bt385.2.2.2.2.2.2.1 bt385.2.2.2.2.2.2.2) else (if bt395.2 = true then (laws_FnCirclesTouch.j0 k l1 bt395.1 bt395.2 (bt399.1 != (bt395.1 == (-2))) bt385.1 bt385.2.1 bt385.2.2.1 bt385.2.2.2.1 bt385.2.2.2.2.1 bt385.2.2.2.2.2.1 bt385.2.2.2.2.2.2.1 bt385.2.2.2.2.2.2.2) else (laws_FnCirclesTouch.j0 k l1 bt395.1 bt395.2 (bt399.1 != false) bt385.1 bt385.2.1 bt385.2.2.1 bt385.2.2.2.1 bt385.2.2.2.2.1 bt385.2.2.2.2.2.1 bt385.2.2.2.2.2.2.1 bt385.2.2.2.2.2.2.2))))) else (laws_FnCirclesTouch.j0 k l1 bt395.1 bt395.2 true bt385.1 bt385.2.1 bt385.2.2.1 bt385.2.2.2.1 bt385.2.2.2.2.1 bt385.2.2.2.2.2.1 bt385.2.2.2.2.2.2.1 bt385.2.2.2.2.2.2.2)))))))))
theorem laws_FnCirclesTouch.mono_l : ∀ k, (∀ y0 y1 y2 y3 y4 y5 y6 y7 y8 y9 y10 y11, LeO (laws_FnCirclesTouch.j0 k y0 y1 y2 y3 y4 y5 y6 y7 y8 y9 y10 y11) (laws_FnCirclesTouch.j0 (k + 1) y0 y1 y2 y3 y4 y5 y6 y7 y8 y9 y10 y11)) ∧ (∀ y0 y1 y2 y3 y4, LeO (laws_FnCirclesTouch.j1 k y0 y1 y2 y3 y4) (laws_FnCirclesTouch.j1 (k + 1) y0 y1 y2 y3 y4)) ∧ (∀ y0 y1 y2 y3 y4 y5 y6 y7 y8 y9 y10 y11 y12 y13 y14 y15 y16, LeO (laws_FnCirclesTouch.j2 k y0 y1 y2 y3 y4 y5 y6 y7 y8 y9 y10 y11 y12 y13 y14 y15 y16) (laws_FnCirclesTouch.j2 (k + 1) y0 y1 y2 y3 y4 y5 y6 y7 y8 y9 y10 y11 y12 y13 y14 y15 y16)) ∧ (∀ y0, LeO (laws_FnCirclesTouch.j4 k y0) (laws_FnCirclesTouch.j4 (k + 1) y0)) ∧ (∀ y0 y1 y2 y3 y4 y5 y6 y7 y8 y9 y10 y11 y12 y13, LeO (laws_FnCirclesTouch.j5 k y0 y1 y2 y3 y4 y5 y6 y7 y8 y9 y10 y11 y12 y13) (laws_FnCirclesTouch.j5 (k + 1) y0 y1 y2 y3 y4 y5 y6 y7 y8 y9 y10 y11 y12 y13)) ∧ (∀ y0 y1 y2 y3 y4 y5 y6 y7 y8 y9 y10 y11 y12 y13 y14 y15, LeO (laws_FnCirclesTouch.j3 k y0 y1 y2 y3 y4 y5 y6 y7 y8 y9 y10 y11 y12 y13 y14 y15) (laws_FnCirclesTouch.j3 (k + 1) y0 y1 y2 y3 y4 y5 y6 y7 y8 y9 y10 y11 y12 y13 y14 y15))
  | 0 => ⟨fun _ _ _ _ _ _ _ _ _ _ _ _ r h => by simp [laws_FnCirclesTouch.j0] at h, fun _ _ _ _ _ r h => by simp [laws_FnCirclesTouch.j1] at h, fun _ _ _ _ _ _ _ _ _ _ _ _ _ _ _ _ _ r h => by simp [laws_FnCirclesTouch.j2] at h, fun _ r h => by simp [laws_FnCirclesTouch.j4] at h, fun _ _ _ _ _ _ _ _ _ _ _ _ _ _ r h => by simp [laws_FnCirclesTouch.j5] at h, fun _ _ _ _ _ _ _ _ _ _ _ _ _ _ _ _ r h => by simp [laws_FnCirclesTouch.j3] at h⟩
  | k + 1 => by
    obtain ⟨ih0, ih1, ih2, ih3, ih4, ih5⟩ := laws_FnCirclesTouch.mono_l k
    refine ⟨?_, ?_, ?_, ?_, ?_, ?_⟩
    · intro y0 y1 y2 y3 y4 y5 y6 y7 y8 y9 y10 y11
      unfold laws_FnCirclesTouch.j0
      repeat' first
      | (with_reducible exact ih0 _ _ _ _ _ _ _ _ _ _ _ _)
      | (with_reducible exact ih1 _ _ _ _ _)
      | (with_reducible exact ih2 _ _ _ _ _ _ _ _ _ _ _ _ _ _ _ _ _)
      | (with_reducible exact ih3 _)
      | (with_reducible exact ih4 _ _ _ _ _ _ _ _ _ _ _ _ _ _)
      | (with_reducible exact ih5 _ _ _ _ _ _ _ _ _ _ _ _ _ _ _ _)
      | (with_reducible exact spec_DoTouch.mono _ _ _ _ _ _ _ _ _)
      | (with_reducible exact spec_DrawReflectCircle.mono _ _)
      | (with_reducible exact spec_DrawShiftCircle.mono _ _)
      | (with_reducible exact spec_DrawTwiceProduct.mono _ _)
      | (with_reducible exact spec_ReflectCircle.mono _ _ _ _ _ _ _ _ _)
      | (with_reducible exact spec_ShiftCircle.mono _ _ _ _ _ _ _)
      | (with_reducible exact spec_TwiceProduct.mono _ _ _ _ _ _ _ _ _)
      | (with_reducible exact LeO.refl _)
      | (with_reducible exact LeO.none _)
      | (with_reducible refine LeO.ite ?_ ?_)
      | (with_reducible refine LeO.bind ?_ (fun _ => ?_))
      | exact ih0 _ _ _ _ _ _ _ _ _ _ _ _
      | exact ih1 _ _ _ _ _
      | exact ih2 _ _ _ _ _ _ _ _ _ _ _ _ _ _ _ _ _
      | exact ih3 _
      | exact ih4 _ _ _ _ _ _ _ _ _ _ _ _ _ _
      | exact ih5 _ _ _ _ _ _ _ _ _ _ _ _ _ _ _ _
      | exact spec_DoTouch.mono _ _ _ _ _ _ _ _ _
      | exact spec_DrawReflectCircle.mono _ _
      | exact spec_DrawShiftCircle.mono _ _
      | exact spec_DrawTwiceProduct.mono _ _
      | exact spec_ReflectCircle.mono _ _ _ _ _ _ _ _ _
      | exact spec_ShiftCircle.mono _ _ _ _ _ _ _
      | exact spec_TwiceProduct.mono _ _ _ _ _ _ _ _ _
      | exact LeO.none _
      | refine LeO.ite ?_ ?_
      | refine LeO.bind ?_ (fun _ => ?_)
    · intro y0 y1 y2 y3 y4
      unfold laws_FnCirclesTouch.j1
      repeat' first
      | (with_reducible exact ih0 _ _ _ _ _ _ _ _ _ _ _ _)
      | (with_reducible exact ih1 _ _ _ _ _)
      | (with_reducible exact ih2 _ _ _ _ _ _ _ _ _ _ _ _ _ _ _ _ _)
      | (with_reducible exact ih3 _)
      | (with_reducible exact ih4 _ _ _ _ _ _ _ _ _ _ _ _ _ _)
      | (with_reducible exact ih5 _ _ _ _ _ _ _ _ _ _ _ _ _ _ _ _)
      | (with_reducible exact spec_DoTouch.mono _ _ _ _ _ _ _ _ _)
      | (with_reducible exact spec_DrawReflectCircle.mono _ _)
      | (with_reducible exact spec_DrawShiftCircle.mono _ _)
      | (with_reducible exact spec_DrawTwiceProduct.mono _ _)
      | (with_reducible exact spec_ReflectCircle.mono _ _ _ _ _ _ _ _ _)
      | (with_reducible exact spec_ShiftCircle.mono _ _ _ _ _ _ _)
      | (with_reducible exact spec_TwiceProduct.mono _ _ _ _ _ _ _ _ _)
      | (with_reducible exact LeO.refl _)
      | (with_reducible exact LeO.none _)
      | (with_reducible refine LeO.ite ?_ ?_)
      | (with_reducible refine LeO.bind ?_ (fun _ => ?_))
      | exact ih0 _ _ _ _ _ _ _ _ _ _ _ _
      | exact ih1 _ _ _ _ _
      | exact ih2 _ _ _ _ _ _ _ _ _ _ _ _ _ _ _ _ _
      | exact ih3 _
      | exact ih4 _ _ _ _ _ _ _ _ _ _ _ _ _ _
      | exact ih5 _ _ _ _ _ _ _ _ _ _ _ _ _ _ _ _
      | exact spec_DoTouch.mono _ _ _ _ _ _ _ _ _
      | exact spec_DrawReflectCircle.mono _ _
      | exact spec_DrawShiftCircle.mono _ _
      | exact spec_DrawTwiceProduct.mono _ _
      | exact spec_ReflectCircle.mono _ _ _ _ _ _ _ _ _
      | exact spec_ShiftCircle.mono _ _ _ _ _ _ _
      | exact spec_TwiceProduct.mono _ _ _ _ _ _ _ _ _
      | exact LeO.none _
      | refine LeO.ite ?_ ?_
      | refine LeO.bind ?_ (fun _ => ?_)
    · intro y0 y1 y2 y3 y4 y5 y6 y7 y8 y9 y10 y11 y12 y13 y14 y15 y16
      unfold laws_FnCirclesTouch.j2
      repeat' first
      | (with_reducible exact ih0 _ _ _ _ _ _ _ _ _ _ _ _)
      | (with_reducible exact ih1 _ _ _ _ _)
      | (with_reducible exact ih2 _ _ _ _ _ _ _ _ _ _ _ _ _ _ _ _ _)
      | (with_reducible exact ih3 _)
      | (with_reducible exact ih4 _ _ _ _ _ _ _ _ _ _ _ _ _ _)
      | (with_reducible exact ih5 _ _ _ _ _ _ _ _ _ _ _ _ _ _ _ _)
      | (with_reducible exact spec_DoTouch.mono _ _ _ _ _ _ _ _ _)
      | (with_reducible exact spec_DrawReflectCircle.mono _ _)
      | (with_reducible exact spec_DrawShiftCircle.mono _ _)
      | (with_reducible exact spec_DrawTwiceProduct.mono _ _)
      | (with_reducible exact spec_ReflectCircle.mono _ _ _ _ _ _ _ _ _)
      | (with_reducible exact spec_ShiftCircle.mono _ _ _ _ _ _ _)
      | (with_reducible exact spec_TwiceProduct.mono _ _ _ _ _ _ _ _ _)
      | (with_reducible exact LeO.refl _)
      | (with_reducible exact LeO.none _)
      | (with_reducible refine LeO.ite ?_ ?_)
      | (with_reducible refine LeO.bind ?_ (fun _ => ?_))
      | exact ih0 _ _ _ _ _ _ _ _ _ _ _ _
      | exact ih1 _ _ _ _ _
      | exact ih2 _ _ _ _ _ _ _ _ _ _ _ _ _ _ _ _ _
      | exact ih3 _
      | exact ih4 _ _ _ _ _ _ _ _ _ _ _ _ _ _
      | exact ih5 _ _ _ _ _ _ _ _ _ _ _ _ _ _ _ _
      | exact spec_DoTouch.mono _ _ _ _ _ _ _ _ _
      | exact spec_DrawReflectCircle.mono _ _
      | exact spec_DrawShiftCircle.mono _ _
      | exact spec_DrawTwiceProduct.mono _ _
      | exact spec_ReflectCircle.mono _ _ _ _ _ _ _ _ _
      | exact spec_ShiftCircle.mono _ _ _ _ _ _ _
      | exact spec_TwiceProduct.mono _ _ _ _ _ _ _ _ _
      | exact LeO.none _
      | refine LeO.ite ?_ ?_
      | refine LeO.bind ?_ (fun _ => ?_)
    · intro y0
      unfold laws_FnCirclesTouch.j4
      repeat' first
      | (with_reducible exact ih0 _ _ _ _ _ _ _ _ _ _ _ _)
      | (with_reducible exact ih1 _ _ _ _ _)
      | (with_reducible exact ih2 _ _ _ _ _ _ _ _ _ _ _ _ _ _ _ _ _)
      | (with_reducible exact ih3 _)
      | (with_reducible exact ih4 _ _ _ _ _ _ _ _ _ _ _ _ _ _)
      | (with_reducible exact ih5 _ _ _ _ _ _ _ _ _ _ _ _ _ _ _ _)
      | (with_reducible exact spec_DoTouch.mono _ _ _ _ _ _ _ _ _)
      | (with_reducible exact spec_DrawReflectCircle.mono _ _)
      | (with_reducible exact spec_DrawShiftCircle.mono _ _)
      | (with_reducible exact spec_DrawTwiceProduct.mono _ _)
      | (with_reducible exact spec_ReflectCircle.mono _ _ _ _ _ _ _ _ _)
      | (with_reducible exact spec_ShiftCircle.mono _ _ _ _ _ _ _)
      | (with_reducible exact spec_TwiceProduct.mono _ _ _ _ _ _ _ _ _)
      | (with_reducible exact LeO.refl _)
      | (with_reducible exact LeO.none _)
      | (with_reducible refine LeO.ite ?_ ?_)
      | (with_reducible refine LeO.bind ?_ (fun _ => ?_))
      | exact ih0 _ _ _ _ _ _ _ _ _ _ _ _
      | exact ih1 _ _ _ _ _
      | exact ih2 _ _ _ _ _ _ _ _ _ _ _ _ _ _ _ _ _
      | exact ih3 _
      | exact ih4 _ _ _ _ _ _ _ _ _ _ _ _ _ _
      | exact ih5 _ _ _ _ _ _ _ _ _ _ _ _ _ _ _ _
      | exact spec_DoTouch.mono _ _ _ _ _ _ _ _ _
      | exact spec_DrawReflectCircle.mono _ _
      | exact spec_DrawShiftCircle.mono _ _
      | exact spec_DrawTwiceProduct.mono _ _
      | exact spec_ReflectCircle.mono _ _ _ _ _ _ _ _ _
      | exact spec_ShiftCircle.mono _ _ _ _ _ _ _
      | exact spec_TwiceProduct.mono _ _ _ _ _ _ _ _ _
      | exact LeO.none _
      | refine LeO.ite ?_ ?_
      | refine LeO.bind ?_ (fun _ => ?_)
    · intro y0 y1 y2 y3 y4 y5 y6 y7 y8 y9 y10 y11 y12 y13
      unfold laws_FnCirclesTouch.j5
      repeat' first
      | (with_reducible exact ih0 _ _ _ _ _ _ _ _ _ _ _ _)
      | (with_reducible exact ih1 _ _ _ _ _)
      | (with_reducible exact ih2 _ _ _ _ _ _ _ _ _ _ _ _ _ _ _ _ _)
      | (with_reducible exact ih3 _)
      | (with_reducible exact ih4 _ _ _ _ _ _ _ _ _ _ _ _ _ _)
      | (with_reducible exact ih5 _ _ _ _ _ _ _ _ _ _ _ _ _ _ _ _)
      | (with_reducible exact spec_DoTouch.mono _ _ _ _ _ _ _ _ _)
      | (with_reducible exact spec_DrawReflectCircle.mono _ _)
      | (with_reducible exact spec_DrawShiftCircle.mono _ _)
      | (with_reducible exact spec_DrawTwiceProduct.mono _ _)
      | (with_reducible exact spec_ReflectCircle.mono _ _ _ _ _ _ _ _ _)
      | (with_reducible exact spec_ShiftCircle.mono _ _ _ _ _ _ _)
      | (with_reducible exact spec_TwiceProduct.mono _ _ _ _ _ _ _ _ _)
      | (with_reducible exact LeO.refl _)
      | (with_reducible exact LeO.none _)
      | (with_reducible refine LeO.ite ?_ ?_)
      | (with_reducible refine LeO.bind ?_ (fun _ => ?_))
      | exact ih0 _ _ _ _ _ _ _ _ _ _ _ _
      | exact ih1 _ _ _ _ _
      | exact ih2 _ _ _ _ _ _ _ _ _ _ _ _ _ _ _ _ _
      | exact ih3 _
      | exact ih4 _ _ _ _ _ _ _ _ _ _ _ _ _ _
      | exact ih5 _ _ _ _ _ _ _ _ _ _ _ _ _ _ _ _
      | exact spec_DoTouch.mono _ _ _ _ _ _ _ _ _
      | exact spec_DrawReflectCircle.mono _ _
      | exact spec_DrawShiftCircle.mono _ _
      | exact spec_DrawTwiceProduct.mono _ _
      | exact spec_ReflectCircle.mono _ _ _ _ _ _ _ _ _
      | exact spec_ShiftCircle.mono _ _ _ _ _ _ _
      | exact spec_TwiceProduct.mono _ _ _ _ _ _ _ _ _
      | exact LeO.none _
      | refine LeO.ite ?_ ?_
      | refine LeO.bind ?_ (fun _ => ?_)
    · intro y0 y1 y2 y3 y4 y5 y6 y7 y8 y9 y10 y11 y12 y13 y14 y15
      unfold laws_FnCirclesTouch.j3
      repeat' first
      | (with_reducible exact ih0 _ _ _ _ _ _ _ _ _ _ _ _)
      | (with_reducible exact ih1 _ _ _ _ _)
      | (with_reducible exact ih2 _ _ _ _ _ _ _ _ _ _ _ _ _ _ _ _ _)
      | (with_reducible exact ih3 _)
      | (with_reducible exact ih4 _ _ _ _ _ _ _ _ _ _ _ _ _ _)
      | (with_reducible exact ih5 _ _ _ _ _ _ _ _ _ _ _ _ _ _ _ _)
      | (with_reducible exact spec_DoTouch.mono _ _ _ _ _ _ _ _ _)
      | (with_reducible exact spec_DrawReflectCircle.mono _ _)
      | (with_reducible exact spec_DrawShiftCircle.mono _ _)
      | (with_reducible exact spec_DrawTwiceProduct.mono _ _)
      | (with_reducible exact spec_ReflectCircle.mono _ _ _ _ _ _ _ _ _)
      | (with_reducible exact spec_ShiftCircle.mono _ _ _ _ _ _ _)
      | (with_reducible exact spec_TwiceProduct.mono _ _ _ _ _ _ _ _ _)
      | (with_reducible exact LeO.refl _)
      | (with_reducible exact LeO.none _)
      | (with_reducible refine LeO.ite ?_ ?_)
      | (with_reducible refine LeO.bind ?_ (fun _ => ?_))
      | exact ih0 _ _ _ _ _ _ _ _ _ _ _ _
      | exact ih1 _ _ _ _ _
      | exact ih2 _ _ _ _ _ _ _ _ _ _ _ _ _ _ _ _ _
      | exact ih3 _
      | exact ih4 _ _ _ _ _ _ _ _ _ _ _ _ _ _
      | exact ih5 _ _ _ _ _ _ _ _ _ _ _ _ _ _ _ _
      | exact spec_DoTouch.mono _ _ _ _ _ _ _ _ _
      | exact spec_DrawReflectCircle.mono _ _
      | exact spec_DrawShiftCircle.mono _ _
      | exact spec_DrawTwiceProduct.mono _ _
      | exact spec_ReflectCircle.mono _ _ _ _ _ _ _ _ _
      | exact spec_ShiftCircle.mono _ _ _ _ _ _ _
      | exact spec_TwiceProduct.mono _ _ _ _ _ _ _ _ _
      | exact LeO.none _
      | refine LeO.ite ?_ ?_
      | refine LeO.bind ?_ (fun _ => ?_)
theorem laws_FnCirclesTouch.mono : ∀ a0 a1 k, LeO (laws_FnCirclesTouch.f k a0 a1) (laws_FnCirclesTouch.f (k + 1) a0 a1) := by
  intro a0 a1 k
  obtain ⟨ih0, ih1, ih2, ih3, ih4, ih5⟩ := laws_FnCirclesTouch.mono_l k
  unfold laws_FnCirclesTouch.f
  repeat' first
      | (with_reducible exact ih0 _ _ _ _ _ _ _ _ _ _ _ _)
      | (with_reducible exact ih1 _ _ _ _ _)
      | (with_reducible exact ih2 _ _ _ _ _ _ _ _ _ _ _ _ _ _ _ _ _)
      | (with_reducible exact ih3 _)
      | (with_reducible exact ih4 _ _ _ _ _ _ _ _ _ _ _ _ _ _)
      | (with_reducible exact ih5 _ _ _ _ _ _ _ _ _ _ _ _ _ _ _ _)
      | (with_reducible exact spec_DoTouch.mono _ _ _ _ _ _ _ _ _)
      | (with_reducible exact spec_DrawReflectCircle.mono _ _)
      | (with_reducible exact spec_DrawShiftCircle.mono _ _)
      | (with_reducible exact spec_DrawTwiceProduct.mono _ _)
      | (with_reducible exact spec_ReflectCircle.mono _ _ _ _ _ _ _ _ _)
      | (with_reducible exact spec_ShiftCircle.mono _ _ _ _ _ _ _)
      | (with_reducible exact spec_TwiceProduct.mono _ _ _ _ _ _ _ _ _)
      | (with_reducible exact LeO.refl _)
      | (with_reducible exact LeO.none _)
      | (with_reducible refine LeO.ite ?_ ?_)
      | (with_reducible refine LeO.bind ?_ (fun _ => ?_))
      | exact ih0 _ _ _ _ _ _ _ _ _ _ _ _
      | exact ih1 _ _ _ _ _
      | exact ih2 _ _ _ _ _ _ _ _ _ _ _ _ _ _ _ _ _
      | exact ih3 _
      | exact ih4 _ _ _ _ _ _ _ _ _ _ _ _ _ _
      | exact ih5 _ _ _ _ _ _ _ _ _ _ _ _ _ _ _ _
      | exact spec_DoTouch.mono _ _ _ _ _ _ _ _ _
      | exact spec_DrawReflectCircle.mono _ _
      | exact spec_DrawShiftCircle.mono _ _
      | exact spec_DrawTwiceProduct.mono _ _
      | exact spec_ReflectCircle.mono _ _ _ _ _ _ _ _ _
      | exact spec_ShiftCircle.mono _ _ _ _ _ _ _
      | exact spec_TwiceProduct.mono _ _ _ _ _ _ _ _ _
      | exact LeO.none _
      | refine LeO.ite ?_ ?_
      | refine LeO.bind ?_ (fun _ => ?_)

end Go.Proofs.Ytkllcinoodfffaa.P
