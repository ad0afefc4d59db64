import Derived.Test.YtkllcinoodfffaaP0
import Derived.Test.YtkllcinoodfffaaP1
import Derived.Test.YtkllcinoodfffaaP6
import Derived.Test.YtkllcinoodfffaaP7
import Derived.Test.YtkllcinoodfffaaP8
import Derived.Test.YtkllcinoodfffaaP9
import Derived.Test.YtkllcinoodfffaaP10
import Derived.Test.YtkllcinoodfffaaDevFnCirclesTouchA
namespace Go.Proofs.Ytkllcinoodfffaa.P
open Go.RowKit Go.Proofs.YtkllcinoodfffaaW.PrintWords Go.Proofs.YtkllcinoodfffaaW.PrintLast Go.Proofs.YtkllcinoodfffaaW.PrintMore
set_option linter.unusedVariables false
set_option linter.unusedSimpArgs false
attribute [local go_sem] max2_int min2_int max_two min_two max_three min_three max_four min_four
theorem bto_ {w W w' : World} {g : Nat} {o : Obj} (_h : w.heap[g]? = some o) (_hb : Below W.heap.size W w') (k : Below w.heap.size w W) : Below w.heap.size w W := k
set_option maxHeartbeats 80000000 in
set_option maxRecDepth 100000 in
theorem laws_FnCirclesTouch.calls (k : Nat) (A0 : Option Addr) (c0 : Nat) (l0 : List Int) (A1 : Option Addr) (c1 : Nat) (l1 : List Int) (r : Bool) (w : World) (hr0 : Kd.C (Kd.int .u8) w A0 l0.length l0) (hc0 : l0.length ≤ c0) (hr1 : Kd.C (Kd.int .u8) w A1 l1.length l1) (hc1 : l1.length ≤ c1) (h : laws_FnCirclesTouch.f k l0 l1 = some true) :
  Calls Try.prog 3 #[.slice A0 l0.length c0, .slice A1 l1.length c1] w fun e w' => e = .returned (.bool true) ∧ Below w.heap.size w w' := by
 have hu25 := Try.underlying25
 have HR0 := Aside0.mk hr0
 have HC0 := Aside0.mk hc0
 clear hr0 hc0
 have HR1 := Aside0.mk hr1
 have HC1 := Aside0.mk hc1
 clear hr1 hc1
 have HB := Aside0.mk (Below.refl w.heap.size w)
 have H : ((laws_big.f l0 l1).bind fun t384 => (if t384 = true then (some true) else ((spec_DrawTwiceProduct.f k l0).bind fun bt385 => ((impl_TwiceProduct.f bt385.1 bt385.2.1 bt385.2.2.1 bt385.2.2.2.1 bt385.2.2.2.2.1 bt385.2.2.2.2.2.1 bt385.2.2.2.2.2.2.1 bt385.2.2.2.2.2.2.2).bind fun bt395 => ((spec_TwiceProduct.f k bt385.1 bt385.2.1 bt385.2.2.1 bt385.2.2.2.1 bt385.2.2.2.2.1 bt385.2.2.2.2.2.1 bt385.2.2.2.2.2.2.1 bt385.2.2.2.2.2.2.2).bind fun bt397 => ((impl_DoTouch.f bt385.1 bt385.2.1 bt385.2.2.1 bt385.2.2.2.1 bt385.2.2.2.2.1 bt385.2.2.2.2.2.1 bt385.2.2.2.2.2.2.1 bt385.2.2.2.2.2.2.2).bind fun bt399 => ((spec_DoTouch.f k bt385.1 bt385.2.1 bt385.2.2.1 bt385.2.2.2.1 bt385.2.2.2.2.1 bt385.2.2.2.2.2.1 bt385.2.2.2.2.2.2.1 bt385.2.2.2.2.2.2.2).bind fun bt401 => (if (bt395.2 != bt397.2) = true then (laws_FnCirclesTouch.j0 k l1 bt395.1 bt395.2 true bt385.1 bt385.2.1 bt385.2.2.1 bt385.2.2.2.1 bt385.2.2.2.2.1 bt385.2.2.2.2.2.1 bt385.2.2.2.2.2.2.1 bt385.2.2.2.2.2.2.2) else (if bt395.1 = bt397.1 then (if (bt399.2 != bt401.2) = true then (laws_FnCirclesTouch.j0 k l1 bt395.1 bt395.2 true bt385.1 bt385.2.1 bt385.2.2.1 bt385.2.2.2.1 bt385.2.2.2.2.1 bt385.2.2.2.2.2.1 bt385.2.2.2.2.2.2.1 bt385.2.2.2.2.2.2.2) else (if (bt399.1 != bt401.1) = true then (laws_FnCirclesTouch.j0 k l1 bt395.1 bt395.2 true bt385.1 bt385.2.1 bt385.2.2.1 bt385.2.2.2.1 bt385.2.2.2.2.1 bt385.2.2.2.2.2.1 bt385.2.2.2.2.2.2.1 bt385.2.2.2.2.2.2.2) else (if (bt399.2 != bt395.2) = true then (laws_FnCirclesTouch.j0 k l1 bt395.1 bt395.2 true bt385.1 bt385.2.1 bt385.2.2.1 bt385.2.2.2.1 bt385.2.2.2.2.1 bt385.2.2.2.2.2.1 bt385.2.2.2.2.2.2.1 bt385.2.2.2.2.2.2.2) else (if bt395.2 = true then (laws_FnCirclesTouch.j0 k l1 bt395.1 bt395.2 (bt399.1 != (bt395.1 == (-2))) bt385.1 bt385.2.1 bt385.2.2.1 bt385.2.2.2.1 bt385.2.2.2.2.1 bt385.2.2.2.2.2.1 bt385.2.2.2.2.2.2.1 bt385.2.2.2.2.2.2.2) else (laws_FnCirclesTouch.j0 k l1 bt395.1 bt395.2 (bt399.1 != false) bt385.1 bt385.2.1 bt385.2.2.1 bt385.2.2.2.1 bt385.2.2.2.2.1 bt385.2.2.2.2.2.1 bt385.2.2.2.2.2.2.1 bt385.2.2.2.2.2.2.2))))) else (laws_FnCirclesTouch.j0 k l1 bt395.1 bt395.2 true bt385.1 bt385.2.1 bt385.2.2.1 bt385.2.2.2.1 bt385.2.2.2.2.1 bt385.2.2.2.2.2.1 bt385.2.2.2.2.2.2.1 bt385.2.2.2.2.2.2.2)))))))))) = some true := h
 clear h
 replace H := Option.bind_eq_some_iff.mp H
 obtain ⟨t384, A30, H⟩ := H
 replace H : (if t384 = true then (some true) else ((spec_DrawTwiceProduct.f k l0).bind fun bt385 => ((impl_TwiceProduct.f bt385.1 bt385.2.1 bt385.2.2.1 bt385.2.2.2.1 bt385.2.2.2.2.1 bt385.2.2.2.2.2.1 bt385.2.2.2.2.2.2.1 bt385.2.2.2.2.2.2.2).bind fun bt395 => ((spec_TwiceProduct.f k bt385.1 bt385.2.1 bt385.2.2.1 bt385.2.2.2.1 bt385.2.2.2.2.1 bt385.2.2.2.2.2.1 bt385.2.2.2.2.2.2.1 bt385.2.2.2.2.2.2.2).bind fun bt397 => ((impl_DoTouch.f bt385.1 bt385.2.1 bt385.2.2.1 bt385.2.2.2.1 bt385.2.2.2.2.1 bt385.2.2.2.2.2.1 bt385.2.2.2.2.2.2.1 bt385.2.2.2.2.2.2.2).bind fun bt399 => ((spec_DoTouch.f k bt385.1 bt385.2.1 bt385.2.2.1 bt385.2.2.2.1 bt385.2.2.2.2.1 bt385.2.2.2.2.2.1 bt385.2.2.2.2.2.2.1 bt385.2.2.2.2.2.2.2).bind fun bt401 => (if (bt395.2 != bt397.2) = true then (laws_FnCirclesTouch.j0 k l1 bt395.1 bt395.2 true bt385.1 bt385.2.1 bt385.2.2.1 bt385.2.2.2.1 bt385.2.2.2.2.1 bt385.2.2.2.2.2.1 bt385.2.2.2.2.2.2.1 bt385.2.2.2.2.2.2.2) else (if bt395.1 = bt397.1 then (if (bt399.2 != bt401.2) = true then (laws_FnCirclesTouch.j0 k l1 bt395.1 bt395.2 true bt385.1 bt385.2.1 bt385.2.2.1 bt385.2.2.2.1 bt385.2.2.2.2.1 bt385.2.2.2.2.2.1 bt385.2.2.2.2.2.2.1 bt385.2.2.2.2.2.2.2) else (if (bt399.1 != bt401.1) = true then (laws_FnCirclesTouch.j0 k l1 bt395.1 bt395.2 true bt385.1 bt385.2.1 bt385.2.2.1 bt385.2.2.2.1 bt385.2.2.2.2.1 bt385.2.2.2.2.2.1 bt385.2.2.2.2.2.2.1 bt385.2.2.2.2.2.2.2) else (if (bt399.2 != bt395.2) = true then (laws_FnCirclesTouch.j0 k l1 bt395.1 bt395.2 true bt385.1 bt385.2.1 bt385.2.2.1 bt385.2.2.2.1 bt385.2.2.2.2.1 bt385.2.2.2.2.2.1 bt385.2.2.2.2.2.2.1 bt385.2.2.2.2.2.2.2) else (if bt395.2 = true then (laws_FnCirclesTouch.j0 k l1 bt395.1 bt395.2 (bt399.1 != (bt395.1 == (-2))) bt385.1 bt385.2.1 bt385.2.2.1 bt385.2.2.2.1 bt385.2.2.2.2.1 bt385.2.2.2.2.2.1 bt385.2.2.2.2.2.2.1 bt385.2.2.2.2.2.2.2) else (laws_FnCirclesTouch.j0 k l1 bt395.1 bt395.2 (bt399.1 != false) bt385.1 bt385.2.1 bt385.2.2.1 bt385.2.2.2.1 bt385.2.2.2.2.1 bt385.2.2.2.2.2.1 bt385.2.2.2.2.2.2.1 bt385.2.2.2.2.2.2.2))))) else (laws_FnCirclesTouch.j0 k l1 bt395.1 bt395.2 true bt385.1 bt385.2.1 bt385.2.2.1 bt385.2.2.2.1 bt385.2.2.2.2.1 bt385.2.2.2.2.2.1 bt385.2.2.2.2.2.2.1 bt385.2.2.2.2.2.2.2))))))))) = some true := H
 have A3 := Aside0.mk A30
 clear A30
 by_cases c4 : t384 = true
 · as_aux_lemma =>
  subst c4
  have H1 : (some true) = some true := rfl
  clear H
  have H := H1
  clear H1
  clear H
  go_enter Try.func3, Try.ntmps3
  go_wp2_with (first | ((with_reducible refine gate_callee (f := 4) rfl ?_); refine goesN_ 4 (some 54) Try.func4 #[.slice A0 l0.length c0, .slice A1 l1.length c1] ?_; (with_reducible refine (laws_big.calls _ _ l0 _ _ l1 true _ ?side1 ?side2 ?side3 ?side4 A3.out).mono ?_); (case side1 => repeat (first | exact HR0.out | (with_reducible refine Kd.C_alloc ?_ _) | (with_reducible refine Kd.C_drewN ?_ _) | (with_reducible refine Kd.C_drew ?_))); (case side2 => exact HC0.out); (case side3 => repeat (first | exact HR1.out | (with_reducible refine Kd.C_alloc ?_ _) | (with_reducible refine Kd.C_drewN ?_ _) | (with_reducible refine Kd.C_drew ?_))); (case side4 => exact HC1.out); rintro e w' ⟨rfl, ⟨nd, rfl⟩⟩; refine ⟨_, rfl, ?_⟩))
  go_ret
  exact ⟨Z106, Z111⟩
 ·
  replace c4 := Bool.eq_false_iff.mpr c4
  subst c4
  have H1 : ((spec_DrawTwiceProduct.f k l0).bind fun bt385 => ((impl_TwiceProduct.f bt385.1 bt385.2.1 bt385.2.2.1 bt385.2.2.2.1 bt385.2.2.2.2.1 bt385.2.2.2.2.2.1 bt385.2.2.2.2.2.2.1 bt385.2.2.2.2.2.2.2).bind fun bt395 => ((spec_TwiceProduct.f k bt385.1 bt385.2.1 bt385.2.2.1 bt385.2.2.2.1 bt385.2.2.2.2.1 bt385.2.2.2.2.2.1 bt385.2.2.2.2.2.2.1 bt385.2.2.2.2.2.2.2).bind fun bt397 => ((impl_DoTouch.f bt385.1 bt385.2.1 bt385.2.2.1 bt385.2.2.2.1 bt385.2.2.2.2.1 bt385.2.2.2.2.2.1 bt385.2.2.2.2.2.2.1 bt385.2.2.2.2.2.2.2).bind fun bt399 => ((spec_DoTouch.f k bt385.1 bt385.2.1 bt385.2.2.1 bt385.2.2.2.1 bt385.2.2.2.2.1 bt385.2.2.2.2.2.1 bt385.2.2.2.2.2.2.1 bt385.2.2.2.2.2.2.2).bind fun bt401 => (if (bt395.2 != bt397.2) = true then (laws_FnCirclesTouch.j0 k l1 bt395.1 bt395.2 true bt385.1 bt385.2.1 bt385.2.2.1 bt385.2.2.2.1 bt385.2.2.2.2.1 bt385.2.2.2.2.2.1 bt385.2.2.2.2.2.2.1 bt385.2.2.2.2.2.2.2) else (if bt395.1 = bt397.1 then (if (bt399.2 != bt401.2) = true then (laws_FnCirclesTouch.j0 k l1 bt395.1 bt395.2 true bt385.1 bt385.2.1 bt385.2.2.1 bt385.2.2.2.1 bt385.2.2.2.2.1 bt385.2.2.2.2.2.1 bt385.2.2.2.2.2.2.1 bt385.2.2.2.2.2.2.2) else (if (bt399.1 != bt401.1) = true then (laws_FnCirclesTouch.j0 k l1 bt395.1 bt395.2 true bt385.1 bt385.2.1 bt385.2.2.1 bt385.2.2.2.1 bt385.2.2.2.2.1 bt385.2.2.2.2.2.1 bt385.2.2.2.2.2.2.1 bt385.2.2.2.2.2.2.2) else (if (bt399.2 != bt395.2) = true then (laws_FnCirclesTouch.j0 k l1 bt395.1 bt395.2 true bt385.1 bt385.2.1 bt385.2.2.1 bt385.2.2.2.1 bt385.2.2.2.2.1 bt385.2.2.2.2.2.1 bt385.2.2.2.2.2.2.1 bt385.2.2.2.2.2.2.2) else (if bt395.2 = true then (laws_FnCirclesTouch.j0 k l1 bt395.1 bt395.2 (bt399.1 != (bt395.1 == (-2))) bt385.1 bt385.2.1 bt385.2.2.1 bt385.2.2.2.1 bt385.2.2.2.2.1 bt385.2.2.2.2.2.1 bt385.2.2.2.2.2.2.1 bt385.2.2.2.2.2.2.2) else (laws_FnCirclesTouch.j0 k l1 bt395.1 bt395.2 (bt399.1 != false) bt385.1 bt385.2.1 bt385.2.2.1 bt385.2.2.2.1 bt385.2.2.2.2.1 bt385.2.2.2.2.2.1 bt385.2.2.2.2.2.2.1 bt385.2.2.2.2.2.2.2))))) else (laws_FnCirclesTouch.j0 k l1 bt395.1 bt395.2 true bt385.1 bt385.2.1 bt385.2.2.1 bt385.2.2.2.1 bt385.2.2.2.2.1 bt385.2.2.2.2.2.1 bt385.2.2.2.2.2.2.1 bt385.2.2.2.2.2.2.2)))))))) = some true := by rw [if_neg (show ¬ (false = true) by decide)] at H; exact H
  clear H
  have H := H1
  clear H1
  replace H := Option.bind_eq_some_iff.mp H
  obtain ⟨⟨t385, t386, t387, t388, t389, t390, t391, t392⟩, A50, H⟩ := H
  replace H : ((impl_TwiceProduct.f t385 t386 t387 t388 t389 t390 t391 t392).bind fun bt395 => ((spec_TwiceProduct.f k t385 t386 t387 t388 t389 t390 t391 t392).bind fun bt397 => ((impl_DoTouch.f t385 t386 t387 t388 t389 t390 t391 t392).bind fun bt399 => ((spec_DoTouch.f k t385 t386 t387 t388 t389 t390 t391 t392).bind fun bt401 => (if (bt395.2 != bt397.2) = true then (laws_FnCirclesTouch.j0 k l1 bt395.1 bt395.2 true t385 t386 t387 t388 t389 t390 t391 t392) else (if bt395.1 = bt397.1 then (if (bt399.2 != bt401.2) = true then (laws_FnCirclesTouch.j0 k l1 bt395.1 bt395.2 true t385 t386 t387 t388 t389 t390 t391 t392) else (if (bt399.1 != bt401.1) = true then (laws_FnCirclesTouch.j0 k l1 bt395.1 bt395.2 true t385 t386 t387 t388 t389 t390 t391 t392) else (if (bt399.2 != bt395.2) = true then (laws_FnCirclesTouch.j0 k l1 bt395.1 bt395.2 true t385 t386 t387 t388 t389 t390 t391 t392) else (if bt395.2 = true then (laws_FnCirclesTouch.j0 k l1 bt395.1 bt395.2 (bt399.1 != (bt395.1 == (-2))) t385 t386 t387 t388 t389 t390 t391 t392) else (laws_FnCirclesTouch.j0 k l1 bt395.1 bt395.2 (bt399.1 != false) t385 t386 t387 t388 t389 t390 t391 t392))))) else (laws_FnCirclesTouch.j0 k l1 bt395.1 bt395.2 true t385 t386 t387 t388 t389 t390 t391 t392))))))) = some true := H
  have A5 := Aside0.mk A50
  clear A50
  replace H := Option.bind_eq_some_iff.mp H
  obtain ⟨⟨t395, t396⟩, A60, H⟩ := H
  replace H : ((spec_TwiceProduct.f k t385 t386 t387 t388 t389 t390 t391 t392).bind fun bt397 => ((impl_DoTouch.f t385 t386 t387 t388 t389 t390 t391 t392).bind fun bt399 => ((spec_DoTouch.f k t385 t386 t387 t388 t389 t390 t391 t392).bind fun bt401 => (if (t396 != bt397.2) = true then (laws_FnCirclesTouch.j0 k l1 t395 t396 true t385 t386 t387 t388 t389 t390 t391 t392) else (if t395 = bt397.1 then (if (bt399.2 != bt401.2) = true then (laws_FnCirclesTouch.j0 k l1 t395 t396 true t385 t386 t387 t388 t389 t390 t391 t392) else (if (bt399.1 != bt401.1) = true then (laws_FnCirclesTouch.j0 k l1 t395 t396 true t385 t386 t387 t388 t389 t390 t391 t392) else (if (bt399.2 != t396) = true then (laws_FnCirclesTouch.j0 k l1 t395 t396 true t385 t386 t387 t388 t389 t390 t391 t392) else (if t396 = true then (laws_FnCirclesTouch.j0 k l1 t395 t396 (bt399.1 != (t395 == (-2))) t385 t386 t387 t388 t389 t390 t391 t392) else (laws_FnCirclesTouch.j0 k l1 t395 t396 (bt399.1 != false) t385 t386 t387 t388 t389 t390 t391 t392))))) else (laws_FnCirclesTouch.j0 k l1 t395 t396 true t385 t386 t387 t388 t389 t390 t391 t392)))))) = some true := H
  have A6 := Aside0.mk A60
  clear A60
  replace H := Option.bind_eq_some_iff.mp H
  obtain ⟨⟨t397, t398⟩, A70, H⟩ := H
  replace H : ((impl_DoTouch.f t385 t386 t387 t388 t389 t390 t391 t392).bind fun bt399 => ((spec_DoTouch.f k t385 t386 t387 t388 t389 t390 t391 t392).bind fun bt401 => (if (t396 != t398) = true then (laws_FnCirclesTouch.j0 k l1 t395 t396 true t385 t386 t387 t388 t389 t390 t391 t392) else (if t395 = t397 then (if (bt399.2 != bt401.2) = true then (laws_FnCirclesTouch.j0 k l1 t395 t396 true t385 t386 t387 t388 t389 t390 t391 t392) else (if (bt399.1 != bt401.1) = true then (laws_FnCirclesTouch.j0 k l1 t395 t396 true t385 t386 t387 t388 t389 t390 t391 t392) else (if (bt399.2 != t396) = true then (laws_FnCirclesTouch.j0 k l1 t395 t396 true t385 t386 t387 t388 t389 t390 t391 t392) else (if t396 = true then (laws_FnCirclesTouch.j0 k l1 t395 t396 (bt399.1 != (t395 == (-2))) t385 t386 t387 t388 t389 t390 t391 t392) else (laws_FnCirclesTouch.j0 k l1 t395 t396 (bt399.1 != false) t385 t386 t387 t388 t389 t390 t391 t392))))) else (laws_FnCirclesTouch.j0 k l1 t395 t396 true t385 t386 t387 t388 t389 t390 t391 t392))))) = some true := H
  have A7 := Aside0.mk A70
  clear A70
  replace H := Option.bind_eq_some_iff.mp H
  obtain ⟨⟨t399, t400⟩, A80, H⟩ := H
  replace H : ((spec_DoTouch.f k t385 t386 t387 t388 t389 t390 t391 t392).bind fun bt401 => (if (t396 != t398) = true then (laws_FnCirclesTouch.j0 k l1 t395 t396 true t385 t386 t387 t388 t389 t390 t391 t392) else (if t395 = t397 then (if (t400 != bt401.2) = true then (laws_FnCirclesTouch.j0 k l1 t395 t396 true t385 t386 t387 t388 t389 t390 t391 t392) else (if (t399 != bt401.1) = true then (laws_FnCirclesTouch.j0 k l1 t395 t396 true t385 t386 t387 t388 t389 t390 t391 t392) else (if (t400 != t396) = true then (laws_FnCirclesTouch.j0 k l1 t395 t396 true t385 t386 t387 t388 t389 t390 t391 t392) else (if t396 = true then (laws_FnCirclesTouch.j0 k l1 t395 t396 (t399 != (t395 == (-2))) t385 t386 t387 t388 t389 t390 t391 t392) else (laws_FnCirclesTouch.j0 k l1 t395 t396 (t399 != false) t385 t386 t387 t388 t389 t390 t391 t392))))) else (laws_FnCirclesTouch.j0 k l1 t395 t396 true t385 t386 t387 t388 t389 t390 t391 t392)))) = some true := H
  have A8 := Aside0.mk A80
  clear A80
  replace H := Option.bind_eq_some_iff.mp H
  obtain ⟨⟨t401, t402⟩, A90, H⟩ := H
  replace H : (if (t396 != t398) = true then (laws_FnCirclesTouch.j0 k l1 t395 t396 true t385 t386 t387 t388 t389 t390 t391 t392) else (if t395 = t397 then (if (t400 != t402) = true then (laws_FnCirclesTouch.j0 k l1 t395 t396 true t385 t386 t387 t388 t389 t390 t391 t392) else (if (t399 != t401) = true then (laws_FnCirclesTouch.j0 k l1 t395 t396 true t385 t386 t387 t388 t389 t390 t391 t392) else (if (t400 != t396) = true then (laws_FnCirclesTouch.j0 k l1 t395 t396 true t385 t386 t387 t388 t389 t390 t391 t392) else (if t396 = true then (laws_FnCirclesTouch.j0 k l1 t395 t396 (t399 != (t395 == (-2))) t385 t386 t387 t388 t389 t390 t391 t392) else (laws_FnCirclesTouch.j0 k l1 t395 t396 (t399 != false) t385 t386 t387 t388 t389 t390 t391 t392))))) else (laws_FnCirclesTouch.j0 k l1 t395 t396 true t385 t386 t387 t388 t389 t390 t391 t392))) = some true := H
  have A9 := Aside0.mk A90
  clear A90
  have HC10 := Aside0.mk H
  clear H
  go_enter Try.func3, Try.ntmps3
  go_upto_region 8 with (first | ((with_reducible refine gate_callee (f := 4) rfl ?_); refine goesN_ 4 (some 54) Try.func4 #[.slice A0 l0.length c0, .slice A1 l1.length c1] ?_; (with_reducible refine (laws_big.calls _ _ l0 _ _ l1 false _ ?side1 ?side2 ?side3 ?side4 A3.out).mono ?_); (case side1 => repeat (first | exact HR0.out | (with_reducible refine Kd.C_alloc ?_ _) | (with_reducible refine Kd.C_drewN ?_ _) | (with_reducible refine Kd.C_drew ?_))); (case side2 => exact HC0.out); (case side3 => repeat (first | exact HR1.out | (with_reducible refine Kd.C_alloc ?_ _) | (with_reducible refine Kd.C_drewN ?_ _) | (with_reducible refine Kd.C_drew ?_))); (case side4 => exact HC1.out); rintro e w' ⟨rfl, ⟨nd, rfl⟩⟩; refine ⟨_, rfl, ?_⟩) | ((with_reducible refine gate_callee (f := 5) rfl ?_); refine goesN_ 5 (some 57) Try.func5 #[.slice A0 l0.length c0] ?_; (with_reducible refine (spec_DrawTwiceProduct.calls k _ _ l0 t385 t386 t387 t388 t389 t390 t391 t392 _ ?side1 ?side2 A5.out).mono ?_); (case side1 => repeat (first | exact HR0.out | (with_reducible refine Kd.C_alloc ?_ _) | (with_reducible refine Kd.C_drewN ?_ _) | (with_reducible refine Kd.C_drew ?_))); (case side2 => exact HC0.out); rintro e w11 ⟨rfl, hb⟩; refine ⟨_, rfl, ?_⟩; replace HB := Aside0.mk (below_step Z111 hb); clear hb) | ((with_reducible refine gate_dst (N := 5) rfl ?_); refine boxN_ 5 #[.int .i64 0, .int .i64 0, .int .i64 0, .int .i64 0] 25 ?_; intro gb393 hg w12 hbox hb; have BK393 := Aside0.mk hbox; have GW393 := gw_ (w := w) Z111 hg; have GE393 := gw_ (w := w) Z111 hg; replace HB := Aside0.mk (below_step Z111 hb); clear hb hbox hg) | ((with_reducible refine gate_dst (N := 6) rfl ?_); refine boxN_ 6 #[.int .i64 0, .int .i64 0, .int .i64 0, .int .i64 0] 25 ?_; intro gb394 hg w13 hbox hb; have BK394 := Aside0.mk hbox; have GW394 := gw_ (w := w) Z14 hg; have GE394 := gw_ (w := w) Z14 hg; replace HB := Aside0.mk (below_step Z14 hb); have NB393_394 := nl_ BK393 hg; have NB394_393 := ng_ BK393 hg; replace BK393 := bk_ BK393 hb; clear hb hbox hg; have hnb14 := NB393_394.out; have hnc14 := NB394_393.out; obtain ⟨_, _, _, _, _, _, _, _⟩ := cz4_ BK393; obtain ⟨_, _, _, _, _, _, _, _⟩ := cz4_ BK394) | ((with_reducible refine gate_callee (f := 6) rfl ?_); refine goesN_ 6 (some 63) Try.func6 #[.agg #[.int .i64 t385, .int .i64 t386, .int .i64 t387, .int .i64 t388], .agg #[.int .i64 t389, .int .i64 t390, .int .i64 t391, .int .i64 t392]] ?_; (with_reducible refine (impl_TwiceProduct.calls t385 t386 t387 t388 t389 t390 t391 t392 t395 t396 _ A6.out).mono ?_); rintro e w17 ⟨rfl, hb⟩; refine ⟨_, rfl, ?_⟩; replace BK393 := Aside0.mk (blk_below (g := gb393) (o := .cells #[.int .i64 t385, .int .i64 t386, .int .i64 t387, .int .i64 t388] 25 (0, 0)) (by (with_reducible repeat (first | refine blk_drewN ?_ _ | refine blk_drew ?_ | refine blk_alloc ?_ _)); refine blk_far ?_ NB393_394.out _; (with_reducible repeat (first | refine blk_drewN ?_ _ | refine blk_drew ?_ | refine blk_alloc ?_ _)); refine blk_far ?_ NB393_394.out _; (with_reducible repeat (first | refine blk_drewN ?_ _ | refine blk_drew ?_ | refine blk_alloc ?_ _)); refine blk_far ?_ NB393_394.out _; (with_reducible repeat (first | refine blk_drewN ?_ _ | refine blk_drew ?_ | refine blk_alloc ?_ _)); refine blk_far ?_ NB393_394.out _; (with_reducible repeat (first | refine blk_drewN ?_ _ | refine blk_drew ?_ | refine blk_alloc ?_ _)); refine blk_put (cs := #[.int .i64 t385, .int .i64 t386, .int .i64 t387, .int .i64 0]) ?_ 3 _ rfl; (with_reducible repeat (first | refine blk_drewN ?_ _ | refine blk_drew ?_ | refine blk_alloc ?_ _)); refine blk_put (cs := #[.int .i64 t385, .int .i64 t386, .int .i64 0, .int .i64 0]) ?_ 2 _ rfl; (with_reducible repeat (first | refine blk_drewN ?_ _ | refine blk_drew ?_ | refine blk_alloc ?_ _)); refine blk_put (cs := #[.int .i64 t385, .int .i64 0, .int .i64 0, .int .i64 0]) ?_ 1 _ rfl; (with_reducible repeat (first | refine blk_drewN ?_ _ | refine blk_drew ?_ | refine blk_alloc ?_ _)); refine blk_put (cs := #[.int .i64 0, .int .i64 0, .int .i64 0, .int .i64 0]) ?_ 0 _ rfl; (with_reducible repeat (first | refine blk_drewN ?_ _ | refine blk_drew ?_ | refine blk_alloc ?_ _)); exact BK393.out) hb); replace BK394 := Aside0.mk (blk_below (g := gb394) (o := .cells #[.int .i64 t389, .int .i64 t390, .int .i64 t391, .int .i64 t392] 25 (0, 0)) (by (with_reducible repeat (first | refine blk_drewN ?_ _ | refine blk_drew ?_ | refine blk_alloc ?_ _)); refine blk_put (cs := #[.int .i64 t389, .int .i64 t390, .int .i64 t391, .int .i64 0]) ?_ 3 _ rfl; (with_reducible repeat (first | refine blk_drewN ?_ _ | refine blk_drew ?_ | refine blk_alloc ?_ _)); refine blk_put (cs := #[.int .i64 t389, .int .i64 t390, .int .i64 0, .int .i64 0]) ?_ 2 _ rfl; (with_reducible repeat (first | refine blk_drewN ?_ _ | refine blk_drew ?_ | refine blk_alloc ?_ _)); refine blk_put (cs := #[.int .i64 t389, .int .i64 0, .int .i64 0, .int .i64 0]) ?_ 1 _ rfl; (with_reducible repeat (first | refine blk_drewN ?_ _ | refine blk_drew ?_ | refine blk_alloc ?_ _)); refine blk_put (cs := #[.int .i64 0, .int .i64 0, .int .i64 0, .int .i64 0]) ?_ 0 _ rfl; (with_reducible repeat (first | refine blk_drewN ?_ _ | refine blk_drew ?_ | refine blk_alloc ?_ _)); refine blk_far ?_ NB394_393.out _; (with_reducible repeat (first | refine blk_drewN ?_ _ | refine blk_drew ?_ | refine blk_alloc ?_ _)); refine blk_far ?_ NB394_393.out _; (with_reducible repeat (first | refine blk_drewN ?_ _ | refine blk_drew ?_ | refine blk_alloc ?_ _)); refine blk_far ?_ NB394_393.out _; (with_reducible repeat (first | refine blk_drewN ?_ _ | refine blk_drew ?_ | refine blk_alloc ?_ _)); refine blk_far ?_ NB394_393.out _; (with_reducible repeat (first | refine blk_drewN ?_ _ | refine blk_drew ?_ | refine blk_alloc ?_ _)); exact BK394.out) hb); replace HB := Aside0.mk (below_step Z102 hb); clear hb; obtain ⟨_, _, _, _, _, _, _, _⟩ := cz4_ BK393; obtain ⟨_, _, _, _, _, _, _, _⟩ := cz4_ BK394) | ((with_reducible refine gate_callee (f := 7) rfl ?_); refine goesN_ 7 (some 69) Try.func7 #[.agg #[.int .i64 t385, .int .i64 t386, .int .i64 t387, .int .i64 t388], .agg #[.int .i64 t389, .int .i64 t390, .int .i64 t391, .int .i64 t392]] ?_; (with_reducible refine (spec_TwiceProduct.calls k t385 t386 t387 t388 t389 t390 t391 t392 t397 t398 _ A7.out).mono ?_); rintro e w20 ⟨rfl, hb⟩; refine ⟨_, rfl, ?_⟩; replace BK393 := bk_ BK393 hb; replace BK394 := bk_ BK394 hb; replace HB := Aside0.mk (below_step Z102 hb); clear hb; obtain ⟨_, _, _, _, _, _, _, _⟩ := cz4_ BK393; obtain ⟨_, _, _, _, _, _, _, _⟩ := cz4_ BK394) | ((with_reducible refine gate_callee (f := 8) rfl ?_); refine goesN_ 8 (some 75) Try.func8 #[.agg #[.int .i64 t385, .int .i64 t386, .int .i64 t387, .int .i64 t388], .agg #[.int .i64 t389, .int .i64 t390, .int .i64 t391, .int .i64 t392]] ?_; (with_reducible refine (impl_DoTouch.calls t385 t386 t387 t388 t389 t390 t391 t392 t399 t400 _ A8.out).mono ?_); rintro e w23 ⟨rfl, hb⟩; refine ⟨_, rfl, ?_⟩; replace BK393 := bk_ BK393 hb; replace BK394 := bk_ BK394 hb; replace HB := Aside0.mk (below_step Z102 hb); clear hb; obtain ⟨_, _, _, _, _, _, _, _⟩ := cz4_ BK393; obtain ⟨_, _, _, _, _, _, _, _⟩ := cz4_ BK394) | ((with_reducible refine gate_callee (f := 9) rfl ?_); refine goesN_ 9 (some 81) Try.func9 #[.agg #[.int .i64 t385, .int .i64 t386, .int .i64 t387, .int .i64 t388], .agg #[.int .i64 t389, .int .i64 t390, .int .i64 t391, .int .i64 t392]] ?_; (with_reducible refine (spec_DoTouch.calls k t385 t386 t387 t388 t389 t390 t391 t392 t401 t402 _ A9.out).mono ?_); rintro e w26 ⟨rfl, hb⟩; refine ⟨_, rfl, ?_⟩; replace BK393 := bk_ BK393 hb; replace BK394 := bk_ BK394 hb; replace HB := Aside0.mk (below_step Z102 hb); clear hb))
  (try simp only [Act.put, sA_, sB_, sC_])
  go_cut [115] from 1000 (fun v115 wc => ∃ (kq : Nat) (x115_9 : Bool), v115 = .bool x115_9 ∧ Aside0 (laws_FnCirclesTouch.j0 kq l1 t395 t396 x115_9 t385 t386 t387 t388 t389 t390 t391 t392 = some true) ∧ Aside0 (kq ≤ k) ∧ Aside0 (wc.heap[gb393]? = some (.cells #[.int .i64 t385, .int .i64 t386, .int .i64 t387, .int .i64 t388] 25 (0, 0))) ∧ Aside0 (wc.heap[gb394]? = some (.cells #[.int .i64 t389, .int .i64 t390, .int .i64 t391, .int .i64 t392] 25 (0, 0))) ∧ Aside0 (Below w.heap.size w wc))
  case first => as_aux_lemma =>
   have H := HC10.out
   clear HC10
   by_cases c27 : (t396 != t398) = true
   · as_aux_lemma =>
    rw [if_pos c27] at H
    have c27b0 : (t396 != t398) = true := c27
    (try (have c27b1 : decide (t396 = t398) = false := by simpa using c27))
    (try (have c27b2 : (t396 == t398) = false := by simpa using c27))
    (try (have c27b3 : ¬ (t396 = t398) := by simpa using c27))
    clear c27
    (first | rw [c27b0] | (simp only [i64_w, i32_w]; rw [c27b0]) | rw [c27b1] | skip)
    have H' := Aside0.mk H
    clear H
    go_wp2
    go_meet
    case rel => exact ⟨_, (true), Z91, H', ⟨Z27⟩, ⟨Z88⟩, ⟨Z89⟩, ⟨Z102⟩⟩
   ·
    rw [if_neg c27] at H
    have c27b0 : (t396 != t398) = false := by simpa using c27
    (try (have c27b1 : decide (t396 = t398) = true := by simpa using c27))
    (try (have c27b2 : (t396 == t398) = true := by simpa using c27))
    clear c27
    (first | rw [c27b0] | (simp only [i64_w, i32_w]; rw [c27b0]) | rw [c27b1] | skip)
    by_cases c28 : t395 = t397
    ·
     rw [if_pos c28] at H
     have c28b0 : (t395 == t397) = true := beq_iff_eq.mpr c28
     have c28b1 : (t395 != t397) = false := bne_eq_false_iff_eq.mpr c28
     clear c28
     by_cases c29 : (t400 != t402) = true
     · as_aux_lemma =>
      rw [if_pos c29] at H
      have c29b0 : (t400 != t402) = true := c29
      (try (have c29b1 : decide (t400 = t402) = false := by simpa using c29))
      (try (have c29b2 : (t400 == t402) = false := by simpa using c29))
      (try (have c29b3 : ¬ (t400 = t402) := by simpa using c29))
      clear c29
      have H' := Aside0.mk H
      clear H
      go_wp2
      go_meet
      case rel => exact ⟨_, (true), Z91, H', ⟨Z27⟩, ⟨Z88⟩, ⟨Z89⟩, ⟨Z102⟩⟩
     ·
      rw [if_neg c29] at H
      have c29b0 : (t400 != t402) = false := by simpa using c29
      (try (have c29b1 : decide (t400 = t402) = true := by simpa using c29))
      (try (have c29b2 : (t400 == t402) = true := by simpa using c29))
      clear c29
      by_cases c30 : (t399 != t401) = true
      · as_aux_lemma =>
       rw [if_pos c30] at H
       have c30b0 : (t399 != t401) = true := c30
       (try (have c30b1 : decide (t399 = t401) = false := by simpa using c30))
       (try (have c30b2 : (t399 == t401) = false := by simpa using c30))
       (try (have c30b3 : ¬ (t399 = t401) := by simpa using c30))
       clear c30
       have H' := Aside0.mk H
       clear H
       go_wp2
       go_meet
       case rel => exact ⟨_, (true), Z91, H', ⟨Z27⟩, ⟨Z88⟩, ⟨Z89⟩, ⟨Z102⟩⟩
      ·
       rw [if_neg c30] at H
       have c30b0 : (t399 != t401) = false := by simpa using c30
       (try (have c30b1 : decide (t399 = t401) = true := by simpa using c30))
       (try (have c30b2 : (t399 == t401) = true := by simpa using c30))
       clear c30
       by_cases c31 : (t400 != t396) = true
       · as_aux_lemma =>
        rw [if_pos c31] at H
        have c31b0 : (t400 != t396) = true := c31
        (try (have c31b1 : decide (t400 = t396) = false := by simpa using c31))
        (try (have c31b2 : (t400 == t396) = false := by simpa using c31))
        (try (have c31b3 : ¬ (t400 = t396) := by simpa using c31))
        clear c31
        have H' := Aside0.mk H
        clear H
        go_wp2
        go_meet
        case rel => exact ⟨_, (true), Z91, H', ⟨Z27⟩, ⟨Z88⟩, ⟨Z89⟩, ⟨Z102⟩⟩
       ·
        rw [if_neg c31] at H
        have c31b0 : (t400 != t396) = false := by simpa using c31
        (try (have c31b1 : decide (t400 = t396) = true := by simpa using c31))
        (try (have c31b2 : (t400 == t396) = true := by simpa using c31))
        clear c31
        by_cases c32 : t396 = true
        · as_aux_lemma =>
         subst c32
         have H1 : (laws_FnCirclesTouch.j0 k l1 t395 true (t399 != (t395 == (-2))) t385 t386 t387 t388 t389 t390 t391 t392) = some true := by rw [if_pos rfl] at H; exact H
         clear H
         have H := H1
         clear H1
         have H' := Aside0.mk H
         clear H
         go_wp2
         go_meet
         case rel => exact ⟨_, ((t399 != (t395 == (-2)))), Z91, H', ⟨Z27⟩, ⟨Z88⟩, ⟨Z89⟩, ⟨Z102⟩⟩
        · as_aux_lemma =>
         replace c32 := Bool.eq_false_iff.mpr c32
         subst c32
         have H1 : (laws_FnCirclesTouch.j0 k l1 t395 false (t399 != false) t385 t386 t387 t388 t389 t390 t391 t392) = some true := by rw [if_neg (show ¬ (false = true) by decide)] at H; exact H
         clear H
         have H := H1
         clear H1
         have H' := Aside0.mk H
         clear H
         go_wp2
         go_meet
         case rel => exact ⟨_, ((t399 != false)), Z91, H', ⟨Z27⟩, ⟨Z88⟩, ⟨Z89⟩, ⟨Z102⟩⟩
    · as_aux_lemma =>
     rw [if_neg c28] at H
     have c28b0 : (t395 == t397) = false := beq_eq_false_iff_ne.mpr c28
     have c28b1 : (t395 != t397) = true := bne_iff_ne.mpr c28
     have H' := Aside0.mk H
     clear H
     go_wp2
     go_meet
     case rel => exact ⟨_, (true), Z91, H', ⟨Z27⟩, ⟨Z88⟩, ⟨Z89⟩, ⟨Z102⟩⟩
  case rest =>
   clear HC10
   obtain ⟨kq, x115_9, rfl, HA, HJ9, BK393, BK394, HB⟩ := hcut
   cases kq with
   | zero => exact absurd HA.out (by simp [laws_FnCirclesTouch.j0])
   | succ kj9 =>
    have H := HA.out
    clear HA
    simp only [laws_FnCirclesTouch.j0] at H
    by_cases c33 : x115_9 = true
    ·
     subst c33
     have H1 : (some false) = some true := by rw [if_pos rfl] at H; exact H
     clear H
     have H := H1
     clear H1
     exact absurd (Option.some.inj H) (by decide)
    ·
     replace c33 := Bool.eq_false_iff.mpr c33
     subst c33
     have H1 : (if t396 = true then ((impl_TwiceProduct.f t385 t386 t387 t388 t385 t386 t387 t388).bind fun bt403 => ((impl_TurnCircle.f t385 t386 t387 t388).bind fun bt405 => ((impl_TurnCircle.f t389 t390 t391 t392).bind fun bt411 => ((impl_TwiceProduct.f bt405.1 bt405.2.1 bt405.2.2.1 bt405.2.2.2.1 bt411.1 bt411.2.1 bt411.2.2.1 bt411.2.2.2.1).bind fun bt417 => ((impl_FlipCircle.f t385 t386 t387 t388).bind fun bt419 => ((impl_FlipCircle.f t389 t390 t391 t392).bind fun bt425 => ((impl_TwiceProduct.f bt419.1 bt419.2.1 bt419.2.2.1 bt419.2.2.2.1 bt425.1 bt425.2.1 bt425.2.2.1 bt425.2.2.2.1).bind fun bt431 => (if bt403.2 = true then (if bt403.1 = 2 then (if bt405.2.2.2.2 = true then (if bt411.2.2.2.2 = true then (if bt417.2 = true then (if bt417.1 = t395 then (if bt419.2.2.2.2 = true then (if bt425.2.2.2.2 = true then (if bt431.2 = true then (if bt431.1 = t395 then (laws_FnCirclesTouch.j1 kj9 l1 t385 t386 t387 t388) else (some false)) else (some false)) else (some false)) else (some false)) else (some false)) else (some false)) else (some false)) else (some false)) else (some false)) else (some false))))))))) else (laws_FnCirclesTouch.j1 kj9 l1 t385 t386 t387 t388)) = some true := by rw [if_neg (show ¬ (false = true) by decide)] at H; exact H
     clear H
     have H := H1
     clear H1
     have HC34 := Aside0.mk H
     clear H
     go_upto_if 116 with (fail)
     go_cut [] from 1000 (fun wc => ∃ (kq : Nat), Aside0 (laws_FnCirclesTouch.j1 kq l1 t385 t386 t387 t388 = some true) ∧ Aside0 (kq ≤ kj9) ∧ Aside0 (wc.heap[gb393]? = some (.cells #[.int .i64 t385, .int .i64 t386, .int .i64 t387, .int .i64 t388] 25 (0, 0))) ∧ Aside0 (wc.heap[gb394]? = some (.cells #[.int .i64 t389, .int .i64 t390, .int .i64 t391, .int .i64 t392] 25 (0, 0))) ∧ Aside0 (Below w.heap.size w wc))
     case first => as_aux_lemma =>
      have H := HC34.out
      clear HC34
      by_cases c35 : t396 = true
      ·
       subst c35
       have H1 : ((impl_TwiceProduct.f t385 t386 t387 t388 t385 t386 t387 t388).bind fun bt403 => ((impl_TurnCircle.f t385 t386 t387 t388).bind fun bt405 => ((impl_TurnCircle.f t389 t390 t391 t392).bind fun bt411 => ((impl_TwiceProduct.f bt405.1 bt405.2.1 bt405.2.2.1 bt405.2.2.2.1 bt411.1 bt411.2.1 bt411.2.2.1 bt411.2.2.2.1).bind fun bt417 => ((impl_FlipCircle.f t385 t386 t387 t388).bind fun bt419 => ((impl_FlipCircle.f t389 t390 t391 t392).bind fun bt425 => ((impl_TwiceProduct.f bt419.1 bt419.2.1 bt419.2.2.1 bt419.2.2.2.1 bt425.1 bt425.2.1 bt425.2.2.1 bt425.2.2.2.1).bind fun bt431 => (if bt403.2 = true then (if bt403.1 = 2 then (if bt405.2.2.2.2 = true then (if bt411.2.2.2.2 = true then (if bt417.2 = true then (if bt417.1 = t395 then (if bt419.2.2.2.2 = true then (if bt425.2.2.2.2 = true then (if bt431.2 = true then (if bt431.1 = t395 then (laws_FnCirclesTouch.j1 kj9 l1 t385 t386 t387 t388) else (some false)) else (some false)) else (some false)) else (some false)) else (some false)) else (some false)) else (some false)) else (some false)) else (some false)) else (some false))))))))) = some true := by rw [if_pos rfl] at H; exact H
       clear H
       have H := H1
       clear H1
       replace H := Option.bind_eq_some_iff.mp H
       obtain ⟨⟨t403, t404⟩, A360, H⟩ := H
       replace H : ((impl_TurnCircle.f t385 t386 t387 t388).bind fun bt405 => ((impl_TurnCircle.f t389 t390 t391 t392).bind fun bt411 => ((impl_TwiceProduct.f bt405.1 bt405.2.1 bt405.2.2.1 bt405.2.2.2.1 bt411.1 bt411.2.1 bt411.2.2.1 bt411.2.2.2.1).bind fun bt417 => ((impl_FlipCircle.f t385 t386 t387 t388).bind fun bt419 => ((impl_FlipCircle.f t389 t390 t391 t392).bind fun bt425 => ((impl_TwiceProduct.f bt419.1 bt419.2.1 bt419.2.2.1 bt419.2.2.2.1 bt425.1 bt425.2.1 bt425.2.2.1 bt425.2.2.2.1).bind fun bt431 => (if t404 = true then (if t403 = 2 then (if bt405.2.2.2.2 = true then (if bt411.2.2.2.2 = true then (if bt417.2 = true then (if bt417.1 = t395 then (if bt419.2.2.2.2 = true then (if bt425.2.2.2.2 = true then (if bt431.2 = true then (if bt431.1 = t395 then (laws_FnCirclesTouch.j1 kj9 l1 t385 t386 t387 t388) else (some false)) else (some false)) else (some false)) else (some false)) else (some false)) else (some false)) else (some false)) else (some false)) else (some false)) else (some false)))))))) = some true := H
       have A36 := Aside0.mk A360
       clear A360
       replace H := Option.bind_eq_some_iff.mp H
       obtain ⟨⟨t405, t406, t407, t408, t409⟩, A370, H⟩ := H
       replace H : ((impl_TurnCircle.f t389 t390 t391 t392).bind fun bt411 => ((impl_TwiceProduct.f t405 t406 t407 t408 bt411.1 bt411.2.1 bt411.2.2.1 bt411.2.2.2.1).bind fun bt417 => ((impl_FlipCircle.f t385 t386 t387 t388).bind fun bt419 => ((impl_FlipCircle.f t389 t390 t391 t392).bind fun bt425 => ((impl_TwiceProduct.f bt419.1 bt419.2.1 bt419.2.2.1 bt419.2.2.2.1 bt425.1 bt425.2.1 bt425.2.2.1 bt425.2.2.2.1).bind fun bt431 => (if t404 = true then (if t403 = 2 then (if t409 = true then (if bt411.2.2.2.2 = true then (if bt417.2 = true then (if bt417.1 = t395 then (if bt419.2.2.2.2 = true then (if bt425.2.2.2.2 = true then (if bt431.2 = true then (if bt431.1 = t395 then (laws_FnCirclesTouch.j1 kj9 l1 t385 t386 t387 t388) else (some false)) else (some false)) else (some false)) else (some false)) else (some false)) else (some false)) else (some false)) else (some false)) else (some false)) else (some false))))))) = some true := H
       have A37 := Aside0.mk A370
       clear A370
       replace H := Option.bind_eq_some_iff.mp H
       obtain ⟨⟨t411, t412, t413, t414, t415⟩, A380, H⟩ := H
       replace H : ((impl_TwiceProduct.f t405 t406 t407 t408 t411 t412 t413 t414).bind fun bt417 => ((impl_FlipCircle.f t385 t386 t387 t388).bind fun bt419 => ((impl_FlipCircle.f t389 t390 t391 t392).bind fun bt425 => ((impl_TwiceProduct.f bt419.1 bt419.2.1 bt419.2.2.1 bt419.2.2.2.1 bt425.1 bt425.2.1 bt425.2.2.1 bt425.2.2.2.1).bind fun bt431 => (if t404 = true then (if t403 = 2 then (if t409 = true then (if t415 = true then (if bt417.2 = true then (if bt417.1 = t395 then (if bt419.2.2.2.2 = true then (if bt425.2.2.2.2 = true then (if bt431.2 = true then (if bt431.1 = t395 then (laws_FnCirclesTouch.j1 kj9 l1 t385 t386 t387 t388) else (some false)) else (some false)) else (some false)) else (some false)) else (some false)) else (some false)) else (some false)) else (some false)) else (some false)) else (some false)))))) = some true := H
       have A38 := Aside0.mk A380
       clear A380
       replace H := Option.bind_eq_some_iff.mp H
       obtain ⟨⟨t417, t418⟩, A390, H⟩ := H
       replace H : ((impl_FlipCircle.f t385 t386 t387 t388).bind fun bt419 => ((impl_FlipCircle.f t389 t390 t391 t392).bind fun bt425 => ((impl_TwiceProduct.f bt419.1 bt419.2.1 bt419.2.2.1 bt419.2.2.2.1 bt425.1 bt425.2.1 bt425.2.2.1 bt425.2.2.2.1).bind fun bt431 => (if t404 = true then (if t403 = 2 then (if t409 = true then (if t415 = true then (if t418 = true then (if t417 = t395 then (if bt419.2.2.2.2 = true then (if bt425.2.2.2.2 = true then (if bt431.2 = true then (if bt431.1 = t395 then (laws_FnCirclesTouch.j1 kj9 l1 t385 t386 t387 t388) else (some false)) else (some false)) else (some false)) else (some false)) else (some false)) else (some false)) else (some false)) else (some false)) else (some false)) else (some false))))) = some true := H
       have A39 := Aside0.mk A390
       clear A390
       replace H := Option.bind_eq_some_iff.mp H
       obtain ⟨⟨t419, t420, t421, t422, t423⟩, A400, H⟩ := H
       replace H : ((impl_FlipCircle.f t389 t390 t391 t392).bind fun bt425 => ((impl_TwiceProduct.f t419 t420 t421 t422 bt425.1 bt425.2.1 bt425.2.2.1 bt425.2.2.2.1).bind fun bt431 => (if t404 = true then (if t403 = 2 then (if t409 = true then (if t415 = true then (if t418 = true then (if t417 = t395 then (if t423 = true then (if bt425.2.2.2.2 = true then (if bt431.2 = true then (if bt431.1 = t395 then (laws_FnCirclesTouch.j1 kj9 l1 t385 t386 t387 t388) else (some false)) else (some false)) else (some false)) else (some false)) else (some false)) else (some false)) else (some false)) else (some false)) else (some false)) else (some false)))) = some true := H
       have A40 := Aside0.mk A400
       clear A400
       replace H := Option.bind_eq_some_iff.mp H
       obtain ⟨⟨t425, t426, t427, t428, t429⟩, A410, H⟩ := H
       replace H : ((impl_TwiceProduct.f t419 t420 t421 t422 t425 t426 t427 t428).bind fun bt431 => (if t404 = true then (if t403 = 2 then (if t409 = true then (if t415 = true then (if t418 = true then (if t417 = t395 then (if t423 = true then (if t429 = true then (if bt431.2 = true then (if bt431.1 = t395 then (laws_FnCirclesTouch.j1 kj9 l1 t385 t386 t387 t388) else (some false)) else (some false)) else (some false)) else (some false)) else (some false)) else (some false)) else (some false)) else (some false)) else (some false)) else (some false))) = some true := H
       have A41 := Aside0.mk A410
       clear A410
       replace H := Option.bind_eq_some_iff.mp H
       obtain ⟨⟨t431, t432⟩, A420, H⟩ := H
       replace H : (if t404 = true then (if t403 = 2 then (if t409 = true then (if t415 = true then (if t418 = true then (if t417 = t395 then (if t423 = true then (if t429 = true then (if t432 = true then (if t431 = t395 then (laws_FnCirclesTouch.j1 kj9 l1 t385 t386 t387 t388) else (some false)) else (some false)) else (some false)) else (some false)) else (some false)) else (some false)) else (some false)) else (some false)) else (some false)) else (some false)) = some true := H
       have A42 := Aside0.mk A420
       clear A420
       by_cases c43 : t404 = true
       ·
        subst c43
        have H1 : (if t403 = 2 then (if t409 = true then (if t415 = true then (if t418 = true then (if t417 = t395 then (if t423 = true then (if t429 = true then (if t432 = true then (if t431 = t395 then (laws_FnCirclesTouch.j1 kj9 l1 t385 t386 t387 t388) else (some false)) else (some false)) else (some false)) else (some false)) else (some false)) else (some false)) else (some false)) else (some false)) else (some false)) = some true := by rw [if_pos rfl] at H; exact H
        clear H
        have H := H1
        clear H1
        by_cases c44 : t403 = 2
        ·
         rw [if_pos c44] at H
         have c44b0 : (t403 == 2) = true := beq_iff_eq.mpr c44
         have c44b1 : (t403 != 2) = false := bne_eq_false_iff_eq.mpr c44
         clear c44
         (first | rw [c44b0] | (simp only [i64_w, i32_w]; rw [c44b0]) | rw [c44b1] | skip)
         by_cases c45 : t409 = true
         ·
          subst c45
          have H1 : (if t415 = true then (if t418 = true then (if t417 = t395 then (if t423 = true then (if t429 = true then (if t432 = true then (if t431 = t395 then (laws_FnCirclesTouch.j1 kj9 l1 t385 t386 t387 t388) else (some false)) else (some false)) else (some false)) else (some false)) else (some false)) else (some false)) else (some false)) = some true := by rw [if_pos rfl] at H; exact H
          clear H
          have H := H1
          clear H1
          by_cases c46 : t415 = true
          ·
           subst c46
           have H1 : (if t418 = true then (if t417 = t395 then (if t423 = true then (if t429 = true then (if t432 = true then (if t431 = t395 then (laws_FnCirclesTouch.j1 kj9 l1 t385 t386 t387 t388) else (some false)) else (some false)) else (some false)) else (some false)) else (some false)) else (some false)) = some true := by rw [if_pos rfl] at H; exact H
           clear H
           have H := H1
           clear H1
           by_cases c47 : t418 = true
           ·
            subst c47
            have H1 : (if t417 = t395 then (if t423 = true then (if t429 = true then (if t432 = true then (if t431 = t395 then (laws_FnCirclesTouch.j1 kj9 l1 t385 t386 t387 t388) else (some false)) else (some false)) else (some false)) else (some false)) else (some false)) = some true := by rw [if_pos rfl] at H; exact H
            clear H
            have H := H1
            clear H1
            by_cases c48 : t417 = t395
            ·
             rw [if_pos c48] at H
             have c48b0 : (t417 == t395) = true := beq_iff_eq.mpr c48
             have c48b1 : (t417 != t395) = false := bne_eq_false_iff_eq.mpr c48
             clear c48
             by_cases c49 : t423 = true
             ·
              subst c49
              have H1 : (if t429 = true then (if t432 = true then (if t431 = t395 then (laws_FnCirclesTouch.j1 kj9 l1 t385 t386 t387 t388) else (some false)) else (some false)) else (some false)) = some true := by rw [if_pos rfl] at H; exact H
              clear H
              have H := H1
              clear H1
              by_cases c50 : t429 = true
              ·
               subst c50
               have H1 : (if t432 = true then (if t431 = t395 then (laws_FnCirclesTouch.j1 kj9 l1 t385 t386 t387 t388) else (some false)) else (some false)) = some true := by rw [if_pos rfl] at H; exact H
               clear H
               have H := H1
               clear H1
               by_cases c51 : t432 = true
               ·
                subst c51
                have H1 : (if t431 = t395 then (laws_FnCirclesTouch.j1 kj9 l1 t385 t386 t387 t388) else (some false)) = some true := by rw [if_pos rfl] at H; exact H
                clear H
                have H := H1
                clear H1
                by_cases c52 : t431 = t395
                · as_aux_lemma =>
                 rw [if_pos c52] at H
                 have c52b0 : (t431 == t395) = true := beq_iff_eq.mpr c52
                 have c52b1 : (t431 != t395) = false := bne_eq_false_iff_eq.mpr c52
                 clear c52
                 have H' := Aside0.mk H
                 clear H
                 have hnb53 := NB393_394.out
                 have hnc53 := NB394_393.out
                 have hcz54_0 : wc.cell? ⟨gb393, 0, none⟩ = some (.int .i64 t385) := (blk_cell BK393.out 0).trans rfl
                 have hcz54_1 : wc.cell? ⟨gb393, 1, none⟩ = some (.int .i64 t386) := (blk_cell BK393.out 1).trans rfl
                 have hcz54_2 : wc.cell? ⟨gb393, 2, none⟩ = some (.int .i64 t387) := (blk_cell BK393.out 2).trans rfl
                 have hcz54_3 : wc.cell? ⟨gb393, 3, none⟩ = some (.int .i64 t388) := (blk_cell BK393.out 3).trans rfl
                 have hfz54_0 := blk_frozen BK393.out 0
                 have hfz54_1 := blk_frozen BK393.out 1
                 have hfz54_2 := blk_frozen BK393.out 2
                 have hfz54_3 := blk_frozen BK393.out 3
                 go_wp2_with (first | ((with_reducible refine gate_callee (f := 6) rfl ?_); refine goesN_ 6 (some 120) Try.func6 #[.agg #[.int .i64 t385, .int .i64 t386, .int .i64 t387, .int .i64 t388], .agg #[.int .i64 t385, .int .i64 t386, .int .i64 t387, .int .i64 t388]] ?_; (with_reducible refine (impl_TwiceProduct.calls t385 t386 t387 t388 t385 t386 t387 t388 t403 true _ A36.out).mono ?_); rintro e w55 ⟨rfl, hb⟩; refine ⟨_, rfl, ?_⟩; replace BK393 := bk_ BK393 hb; replace BK394 := bk_ BK394 hb; replace HB := Aside0.mk (below_step Z102 hb); clear hb; obtain ⟨_, _, _, _, _, _, _, _⟩ := cz4_ BK393) | ((with_reducible refine gate_callee (f := 10) rfl ?_); refine goesN_ 10 (some 125) Try.func10 #[.agg #[.int .i64 t385, .int .i64 t386, .int .i64 t387, .int .i64 t388]] ?_; (with_reducible refine (impl_TurnCircle.calls t385 t386 t387 t388 t405 t406 t407 t408 true _ A37.out).mono ?_); rintro e w57 ⟨rfl, hb⟩; refine ⟨_, rfl, ?_⟩; replace BK393 := bk_ BK393 hb; replace BK394 := bk_ BK394 hb; replace HB := Aside0.mk (below_step Z102 hb); clear hb) | ((with_reducible refine gate_dst (N := 17) rfl ?_); refine boxN_ 17 #[.int .i64 0, .int .i64 0, .int .i64 0, .int .i64 0] 25 ?_; intro gb410 hg w58 hbox hb; have BK410 := Aside0.mk hbox; have GW410 := gw_ (w := w) Z102 hg; have GE410 := gw_ (w := w) Z102 hg; replace HB := Aside0.mk (below_step Z102 hb); have NB393_410 := nl_ BK393 hg; have NB410_393 := ng_ BK393 hg; replace BK393 := bk_ BK393 hb; have NB394_410 := nl_ BK394 hg; have NB410_394 := ng_ BK394 hg; replace BK394 := bk_ BK394 hb; clear hb hbox hg; have hnb59 := NB410_393.out; have hnc59 := NB393_410.out; have hnb60 := NB410_394.out; have hnc60 := NB394_410.out; obtain ⟨_, _, _, _, _, _, _, _⟩ := cz4_ BK410; obtain ⟨_, _, _, _, _, _, _, _⟩ := cz4_ BK394) | ((with_reducible refine gate_callee (f := 10) rfl ?_); refine goesN_ 10 (some 130) Try.func10 #[.agg #[.int .i64 t389, .int .i64 t390, .int .i64 t391, .int .i64 t392]] ?_; (with_reducible refine (impl_TurnCircle.calls t389 t390 t391 t392 t411 t412 t413 t414 true _ A38.out).mono ?_); rintro e w63 ⟨rfl, hb⟩; refine ⟨_, rfl, ?_⟩; replace BK393 := Aside0.mk (blk_below (g := gb393) (o := .cells #[.int .i64 t385, .int .i64 t386, .int .i64 t387, .int .i64 t388] 25 (0, 0)) (by (with_reducible repeat (first | refine blk_drewN ?_ _ | refine blk_drew ?_ | refine blk_alloc ?_ _)); refine blk_far ?_ NB393_410.out _; (with_reducible repeat (first | refine blk_drewN ?_ _ | refine blk_drew ?_ | refine blk_alloc ?_ _)); refine blk_far ?_ NB393_410.out _; (with_reducible repeat (first | refine blk_drewN ?_ _ | refine blk_drew ?_ | refine blk_alloc ?_ _)); refine blk_far ?_ NB393_410.out _; (with_reducible repeat (first | refine blk_drewN ?_ _ | refine blk_drew ?_ | refine blk_alloc ?_ _)); refine blk_far ?_ NB393_410.out _; (with_reducible repeat (first | refine blk_drewN ?_ _ | refine blk_drew ?_ | refine blk_alloc ?_ _)); exact BK393.out) hb); replace BK394 := Aside0.mk (blk_below (g := gb394) (o := .cells #[.int .i64 t389, .int .i64 t390, .int .i64 t391, .int .i64 t392] 25 (0, 0)) (by (with_reducible repeat (first | refine blk_drewN ?_ _ | refine blk_drew ?_ | refine blk_alloc ?_ _)); refine blk_far ?_ NB394_410.out _; (with_reducible repeat (first | refine blk_drewN ?_ _ | refine blk_drew ?_ | refine blk_alloc ?_ _)); refine blk_far ?_ NB394_410.out _; (with_reducible repeat (first | refine blk_drewN ?_ _ | refine blk_drew ?_ | refine blk_alloc ?_ _)); refine blk_far ?_ NB394_410.out _; (with_reducible repeat (first | refine blk_drewN ?_ _ | refine blk_drew ?_ | refine blk_alloc ?_ _)); refine blk_far ?_ NB394_410.out _; (with_reducible repeat (first | refine blk_drewN ?_ _ | refine blk_drew ?_ | refine blk_alloc ?_ _)); exact BK394.out) hb); replace BK410 := Aside0.mk (blk_below (g := gb410) (o := .cells #[.int .i64 t405, .int .i64 t406, .int .i64 t407, .int .i64 t408] 25 (0, 0)) (by (with_reducible repeat (first | refine blk_drewN ?_ _ | refine blk_drew ?_ | refine blk_alloc ?_ _)); refine blk_put (cs := #[.int .i64 t405, .int .i64 t406, .int .i64 t407, .int .i64 0]) ?_ 3 _ rfl; (with_reducible repeat (first | refine blk_drewN ?_ _ | refine blk_drew ?_ | refine blk_alloc ?_ _)); refine blk_put (cs := #[.int .i64 t405, .int .i64 t406, .int .i64 0, .int .i64 0]) ?_ 2 _ rfl; (with_reducible repeat (first | refine blk_drewN ?_ _ | refine blk_drew ?_ | refine blk_alloc ?_ _)); refine blk_put (cs := #[.int .i64 t405, .int .i64 0, .int .i64 0, .int .i64 0]) ?_ 1 _ rfl; (with_reducible repeat (first | refine blk_drewN ?_ _ | refine blk_drew ?_ | refine blk_alloc ?_ _)); refine blk_put (cs := #[.int .i64 0, .int .i64 0, .int .i64 0, .int .i64 0]) ?_ 0 _ rfl; (with_reducible repeat (first | refine blk_drewN ?_ _ | refine blk_drew ?_ | refine blk_alloc ?_ _)); exact BK410.out) hb); replace HB := Aside0.mk (below_step Z30 hb); clear hb) | ((with_reducible refine gate_dst (N := 19) rfl ?_); refine boxN_ 19 #[.int .i64 0, .int .i64 0, .int .i64 0, .int .i64 0] 25 ?_; intro gb416 hg w64 hbox hb; have BK416 := Aside0.mk hbox; have GW416 := gw_ (w := w) Z30 hg; have GE416 := gw_ (w := w) Z30 hg; replace HB := Aside0.mk (below_step Z30 hb); have NB393_416 := nl_ BK393 hg; have NB416_393 := ng_ BK393 hg; replace BK393 := bk_ BK393 hb; have NB394_416 := nl_ BK394 hg; have NB416_394 := ng_ BK394 hg; replace BK394 := bk_ BK394 hb; have NB410_416 := nl_ BK410 hg; have NB416_410 := ng_ BK410 hg; replace BK410 := bk_ BK410 hb; clear hb hbox hg; have hnb65 := NB416_393.out; have hnc65 := NB393_416.out; have hnb66 := NB416_394.out; have hnc66 := NB394_416.out; have hnb67 := NB416_410.out; have hnc67 := NB410_416.out; obtain ⟨_, _, _, _, _, _, _, _⟩ := cz4_ BK416; obtain ⟨_, _, _, _, _, _, _, _⟩ := cz4_ BK410) | ((with_reducible refine gate_callee (f := 6) rfl ?_); refine goesN_ 6 (some 136) Try.func6 #[.agg #[.int .i64 t405, .int .i64 t406, .int .i64 t407, .int .i64 t408], .agg #[.int .i64 t411, .int .i64 t412, .int .i64 t413, .int .i64 t414]] ?_; (with_reducible refine (impl_TwiceProduct.calls t405 t406 t407 t408 t411 t412 t413 t414 t417 true _ A39.out).mono ?_); rintro e w70 ⟨rfl, hb⟩; refine ⟨_, rfl, ?_⟩; replace BK393 := Aside0.mk (blk_below (g := gb393) (o := .cells #[.int .i64 t385, .int .i64 t386, .int .i64 t387, .int .i64 t388] 25 (0, 0)) (by (with_reducible repeat (first | refine blk_drewN ?_ _ | refine blk_drew ?_ | refine blk_alloc ?_ _)); refine blk_far ?_ NB393_416.out _; (with_reducible repeat (first | refine blk_drewN ?_ _ | refine blk_drew ?_ | refine blk_alloc ?_ _)); refine blk_far ?_ NB393_416.out _; (with_reducible repeat (first | refine blk_drewN ?_ _ | refine blk_drew ?_ | refine blk_alloc ?_ _)); refine blk_far ?_ NB393_416.out _; (with_reducible repeat (first | refine blk_drewN ?_ _ | refine blk_drew ?_ | refine blk_alloc ?_ _)); refine blk_far ?_ NB393_416.out _; (with_reducible repeat (first | refine blk_drewN ?_ _ | refine blk_drew ?_ | refine blk_alloc ?_ _)); exact BK393.out) hb); replace BK394 := Aside0.mk (blk_below (g := gb394) (o := .cells #[.int .i64 t389, .int .i64 t390, .int .i64 t391, .int .i64 t392] 25 (0, 0)) (by (with_reducible repeat (first | refine blk_drewN ?_ _ | refine blk_drew ?_ | refine blk_alloc ?_ _)); refine blk_far ?_ NB394_416.out _; (with_reducible repeat (first | refine blk_drewN ?_ _ | refine blk_drew ?_ | refine blk_alloc ?_ _)); refine blk_far ?_ NB394_416.out _; (with_reducible repeat (first | refine blk_drewN ?_ _ | refine blk_drew ?_ | refine blk_alloc ?_ _)); refine blk_far ?_ NB394_416.out _; (with_reducible repeat (first | refine blk_drewN ?_ _ | refine blk_drew ?_ | refine blk_alloc ?_ _)); refine blk_far ?_ NB394_416.out _; (with_reducible repeat (first | refine blk_drewN ?_ _ | refine blk_drew ?_ | refine blk_alloc ?_ _)); exact BK394.out) hb); replace BK410 := Aside0.mk (blk_below (g := gb410) (o := .cells #[.int .i64 t405, .int .i64 t406, .int .i64 t407, .int .i64 t408] 25 (0, 0)) (by (with_reducible repeat (first | refine blk_drewN ?_ _ | refine blk_drew ?_ | refine blk_alloc ?_ _)); refine blk_far ?_ NB410_416.out _; (with_reducible repeat (first | refine blk_drewN ?_ _ | refine blk_drew ?_ | refine blk_alloc ?_ _)); refine blk_far ?_ NB410_416.out _; (with_reducible repeat (first | refine blk_drewN ?_ _ | refine blk_drew ?_ | refine blk_alloc ?_ _)); refine blk_far ?_ NB410_416.out _; (with_reducible repeat (first | refine blk_drewN ?_ _ | refine blk_drew ?_ | refine blk_alloc ?_ _)); refine blk_far ?_ NB410_416.out _; (with_reducible repeat (first | refine blk_drewN ?_ _ | refine blk_drew ?_ | refine blk_alloc ?_ _)); exact BK410.out) hb); replace BK416 := Aside0.mk (blk_below (g := gb416) (o := .cells #[.int .i64 t411, .int .i64 t412, .int .i64 t413, .int .i64 t414] 25 (0, 0)) (by (with_reducible repeat (first | refine blk_drewN ?_ _ | refine blk_drew ?_ | refine blk_alloc ?_ _)); refine blk_put (cs := #[.int .i64 t411, .int .i64 t412, .int .i64 t413, .int .i64 0]) ?_ 3 _ rfl; (with_reducible repeat (first | refine blk_drewN ?_ _ | refine blk_drew ?_ | refine blk_alloc ?_ _)); refine blk_put (cs := #[.int .i64 t411, .int .i64 t412, .int .i64 0, .int .i64 0]) ?_ 2 _ rfl; (with_reducible repeat (first | refine blk_drewN ?_ _ | refine blk_drew ?_ | refine blk_alloc ?_ _)); refine blk_put (cs := #[.int .i64 t411, .int .i64 0, .int .i64 0, .int .i64 0]) ?_ 1 _ rfl; (with_reducible repeat (first | refine blk_drewN ?_ _ | refine blk_drew ?_ | refine blk_alloc ?_ _)); refine blk_put (cs := #[.int .i64 0, .int .i64 0, .int .i64 0, .int .i64 0]) ?_ 0 _ rfl; (with_reducible repeat (first | refine blk_drewN ?_ _ | refine blk_drew ?_ | refine blk_alloc ?_ _)); exact BK416.out) hb); replace HB := Aside0.mk (below_step Z66 hb); clear hb; obtain ⟨_, _, _, _, _, _, _, _⟩ := cz4_ BK393) | ((with_reducible refine gate_callee (f := 11) rfl ?_); refine goesN_ 11 (some 141) Try.func11 #[.agg #[.int .i64 t385, .int .i64 t386, .int .i64 t387, .int .i64 t388]] ?_; (with_reducible refine (impl_FlipCircle.calls t385 t386 t387 t388 t419 t420 t421 t422 true _ A40.out).mono ?_); rintro e w72 ⟨rfl, hb⟩; refine ⟨_, rfl, ?_⟩; replace BK393 := bk_ BK393 hb; replace BK394 := bk_ BK394 hb; replace BK410 := bk_ BK410 hb; replace BK416 := bk_ BK416 hb; replace HB := Aside0.mk (below_step Z66 hb); clear hb) | ((with_reducible refine gate_dst (N := 23) rfl ?_); refine boxN_ 23 #[.int .i64 0, .int .i64 0, .int .i64 0, .int .i64 0] 25 ?_; intro gb424 hg w73 hbox hb; have BK424 := Aside0.mk hbox; have GW424 := gw_ (w := w) Z66 hg; have GE424 := gw_ (w := w) Z66 hg; replace HB := Aside0.mk (below_step Z66 hb); have NB393_424 := nl_ BK393 hg; have NB424_393 := ng_ BK393 hg; replace BK393 := bk_ BK393 hb; have NB394_424 := nl_ BK394 hg; have NB424_394 := ng_ BK394 hg; replace BK394 := bk_ BK394 hb; have NB410_424 := nl_ BK410 hg; have NB424_410 := ng_ BK410 hg; replace BK410 := bk_ BK410 hb; have NB416_424 := nl_ BK416 hg; have NB424_416 := ng_ BK416 hg; replace BK416 := bk_ BK416 hb; clear hb hbox hg; have hnb74 := NB424_393.out; have hnc74 := NB393_424.out; have hnb75 := NB424_394.out; have hnc75 := NB394_424.out; have hnb76 := NB424_410.out; have hnc76 := NB410_424.out; have hnb77 := NB424_416.out; have hnc77 := NB416_424.out; obtain ⟨_, _, _, _, _, _, _, _⟩ := cz4_ BK424; obtain ⟨_, _, _, _, _, _, _, _⟩ := cz4_ BK394) | ((with_reducible refine gate_callee (f := 11) rfl ?_); refine goesN_ 11 (some 146) Try.func11 #[.agg #[.int .i64 t389, .int .i64 t390, .int .i64 t391, .int .i64 t392]] ?_; (with_reducible refine (impl_FlipCircle.calls t389 t390 t391 t392 t425 t426 t427 t428 true _ A41.out).mono ?_); rintro e w80 ⟨rfl, hb⟩; refine ⟨_, rfl, ?_⟩; replace BK393 := Aside0.mk (blk_below (g := gb393) (o := .cells #[.int .i64 t385, .int .i64 t386, .int .i64 t387, .int .i64 t388] 25 (0, 0)) (by (with_reducible repeat (first | refine blk_drewN ?_ _ | refine blk_drew ?_ | refine blk_alloc ?_ _)); refine blk_far ?_ NB393_424.out _; (with_reducible repeat (first | refine blk_drewN ?_ _ | refine blk_drew ?_ | refine blk_alloc ?_ _)); refine blk_far ?_ NB393_424.out _; (with_reducible repeat (first | refine blk_drewN ?_ _ | refine blk_drew ?_ | refine blk_alloc ?_ _)); refine blk_far ?_ NB393_424.out _; (with_reducible repeat (first | refine blk_drewN ?_ _ | refine blk_drew ?_ | refine blk_alloc ?_ _)); refine blk_far ?_ NB393_424.out _; (with_reducible repeat (first | refine blk_drewN ?_ _ | refine blk_drew ?_ | refine blk_alloc ?_ _)); exact BK393.out) hb); replace BK394 := Aside0.mk (blk_below (g := gb394) (o := .cells #[.int .i64 t389, .int .i64 t390, .int .i64 t391, .int .i64 t392] 25 (0, 0)) (by (with_reducible repeat (first | refine blk_drewN ?_ _ | refine blk_drew ?_ | refine blk_alloc ?_ _)); refine blk_far ?_ NB394_424.out _; (with_reducible repeat (first | refine blk_drewN ?_ _ | refine blk_drew ?_ | refine blk_alloc ?_ _)); refine blk_far ?_ NB394_424.out _; (with_reducible repeat (first | refine blk_drewN ?_ _ | refine blk_drew ?_ | refine blk_alloc ?_ _)); refine blk_far ?_ NB394_424.out _; (with_reducible repeat (first | refine blk_drewN ?_ _ | refine blk_drew ?_ | refine blk_alloc ?_ _)); refine blk_far ?_ NB394_424.out _; (with_reducible repeat (first | refine blk_drewN ?_ _ | refine blk_drew ?_ | refine blk_alloc ?_ _)); exact BK394.out) hb); replace BK410 := Aside0.mk (blk_below (g := gb410) (o := .cells #[.int .i64 t405, .int .i64 t406, .int .i64 t407, .int .i64 t408] 25 (0, 0)) (by (with_reducible repeat (first | refine blk_drewN ?_ _ | refine blk_drew ?_ | refine blk_alloc ?_ _)); refine blk_far ?_ NB410_424.out _; (with_reducible repeat (first | refine blk_drewN ?_ _ | refine blk_drew ?_ | refine blk_alloc ?_ _)); refine blk_far ?_ NB410_424.out _; (with_reducible repeat (first | refine blk_drewN ?_ _ | refine blk_drew ?_ | refine blk_alloc ?_ _)); refine blk_far ?_ NB410_424.out _; (with_reducible repeat (first | refine blk_drewN ?_ _ | refine blk_drew ?_ | refine blk_alloc ?_ _)); refine blk_far ?_ NB410_424.out _; (with_reducible repeat (first | refine blk_drewN ?_ _ | refine blk_drew ?_ | refine blk_alloc ?_ _)); exact BK410.out) hb); replace BK416 := Aside0.mk (blk_below (g := gb416) (o := .cells #[.int .i64 t411, .int .i64 t412, .int .i64 t413, .int .i64 t414] 25 (0, 0)) (by (with_reducible repeat (first | refine blk_drewN ?_ _ | refine blk_drew ?_ | refine blk_alloc ?_ _)); refine blk_far ?_ NB416_424.out _; (with_reducible repeat (first | refine blk_drewN ?_ _ | refine blk_drew ?_ | refine blk_alloc ?_ _)); refine blk_far ?_ NB416_424.out _; (with_reducible repeat (first | refine blk_drewN ?_ _ | refine blk_drew ?_ | refine blk_alloc ?_ _)); refine blk_far ?_ NB416_424.out _; (with_reducible repeat (first | refine blk_drewN ?_ _ | refine blk_drew ?_ | refine blk_alloc ?_ _)); refine blk_far ?_ NB416_424.out _; (with_reducible repeat (first | refine blk_drewN ?_ _ | refine blk_drew ?_ | refine blk_alloc ?_ _)); exact BK416.out) hb); replace BK424 := Aside0.mk (blk_below (g := gb424) (o := .cells #[.int .i64 t419, .int .i64 t420, .int .i64 t421, .int .i64 t422] 25 (0, 0)) (by (with_reducible repeat (first | refine blk_drewN ?_ _ | refine blk_drew ?_ | refine blk_alloc ?_ _)); refine blk_put (cs := #[.int .i64 t419, .int .i64 t420, .int .i64 t421, .int .i64 0]) ?_ 3 _ rfl; (with_reducible repeat (first | refine blk_drewN ?_ _ | refine blk_drew ?_ | refine blk_alloc ?_ _)); refine blk_put (cs := #[.int .i64 t419, .int .i64 t420, .int .i64 0, .int .i64 0]) ?_ 2 _ rfl; (with_reducible repeat (first | refine blk_drewN ?_ _ | refine blk_drew ?_ | refine blk_alloc ?_ _)); refine blk_put (cs := #[.int .i64 t419, .int .i64 0, .int .i64 0, .int .i64 0]) ?_ 1 _ rfl; (with_reducible repeat (first | refine blk_drewN ?_ _ | refine blk_drew ?_ | refine blk_alloc ?_ _)); refine blk_put (cs := #[.int .i64 0, .int .i64 0, .int .i64 0, .int .i64 0]) ?_ 0 _ rfl; (with_reducible repeat (first | refine blk_drewN ?_ _ | refine blk_drew ?_ | refine blk_alloc ?_ _)); exact BK424.out) hb); replace HB := Aside0.mk (below_step Z34 hb); clear hb) | ((with_reducible refine gate_dst (N := 25) rfl ?_); refine boxN_ 25 #[.int .i64 0, .int .i64 0, .int .i64 0, .int .i64 0] 25 ?_; intro gb430 hg w81 hbox hb; have BK430 := Aside0.mk hbox; have GW430 := gw_ (w := w) Z34 hg; have GE430 := gw_ (w := w) Z34 hg; replace HB := Aside0.mk (below_step Z34 hb); have NB393_430 := nl_ BK393 hg; have NB430_393 := ng_ BK393 hg; replace BK393 := bk_ BK393 hb; have NB394_430 := nl_ BK394 hg; have NB430_394 := ng_ BK394 hg; replace BK394 := bk_ BK394 hb; have NB410_430 := nl_ BK410 hg; have NB430_410 := ng_ BK410 hg; replace BK410 := bk_ BK410 hb; have NB416_430 := nl_ BK416 hg; have NB430_416 := ng_ BK416 hg; replace BK416 := bk_ BK416 hb; have NB424_430 := nl_ BK424 hg; have NB430_424 := ng_ BK424 hg; replace BK424 := bk_ BK424 hb; clear hb hbox hg; have hnb82 := NB430_393.out; have hnc82 := NB393_430.out; have hnb83 := NB430_394.out; have hnc83 := NB394_430.out; have hnb84 := NB430_410.out; have hnc84 := NB410_430.out; have hnb85 := NB430_416.out; have hnc85 := NB416_430.out; have hnb86 := NB430_424.out; have hnc86 := NB424_430.out; obtain ⟨_, _, _, _, _, _, _, _⟩ := cz4_ BK430; obtain ⟨_, _, _, _, _, _, _, _⟩ := cz4_ BK424) | ((with_reducible refine gate_callee (f := 6) rfl ?_); refine goesN_ 6 (some 152) Try.func6 #[.agg #[.int .i64 t419, .int .i64 t420, .int .i64 t421, .int .i64 t422], .agg #[.int .i64 t425, .int .i64 t426, .int .i64 t427, .int .i64 t428]] ?_; (with_reducible refine (impl_TwiceProduct.calls t419 t420 t421 t422 t425 t426 t427 t428 t431 true _ A42.out).mono ?_); rintro e w89 ⟨rfl, hb⟩; refine ⟨_, rfl, ?_⟩; replace BK393 := Aside0.mk (blk_below (g := gb393) (o := .cells #[.int .i64 t385, .int .i64 t386, .int .i64 t387, .int .i64 t388] 25 (0, 0)) (by (with_reducible repeat (first | refine blk_drewN ?_ _ | refine blk_drew ?_ | refine blk_alloc ?_ _)); refine blk_far ?_ NB393_430.out _; (with_reducible repeat (first | refine blk_drewN ?_ _ | refine blk_drew ?_ | refine blk_alloc ?_ _)); refine blk_far ?_ NB393_430.out _; (with_reducible repeat (first | refine blk_drewN ?_ _ | refine blk_drew ?_ | refine blk_alloc ?_ _)); refine blk_far ?_ NB393_430.out _; (with_reducible repeat (first | refine blk_drewN ?_ _ | refine blk_drew ?_ | refine blk_alloc ?_ _)); refine blk_far ?_ NB393_430.out _; (with_reducible repeat (first | refine blk_drewN ?_ _ | refine blk_drew ?_ | refine blk_alloc ?_ _)); exact BK393.out) hb); replace BK394 := Aside0.mk (blk_below (g := gb394) (o := .cells #[.int .i64 t389, .int .i64 t390, .int .i64 t391, .int .i64 t392] 25 (0, 0)) (by (with_reducible repeat (first | refine blk_drewN ?_ _ | refine blk_drew ?_ | refine blk_alloc ?_ _)); refine blk_far ?_ NB394_430.out _; (with_reducible repeat (first | refine blk_drewN ?_ _ | refine blk_drew ?_ | refine blk_alloc ?_ _)); refine blk_far ?_ NB394_430.out _; (with_reducible repeat (first | refine blk_drewN ?_ _ | refine blk_drew ?_ | refine blk_alloc ?_ _)); refine blk_far ?_ NB394_430.out _; (with_reducible repeat (first | refine blk_drewN ?_ _ | refine blk_drew ?_ | refine blk_alloc ?_ _)); refine blk_far ?_ NB394_430.out _; (with_reducible repeat (first | refine blk_drewN ?_ _ | refine blk_drew ?_ | refine blk_alloc ?_ _)); exact BK394.out) hb); replace BK410 := Aside0.mk (blk_below (g := gb410) (o := .cells #[.int .i64 t405, .int .i64 t406, .int .i64 t407, .int .i64 t408] 25 (0, 0)) (by (with_reducible repeat (first | refine blk_drewN ?_ _ | refine blk_drew ?_ | refine blk_alloc ?_ _)); refine blk_far ?_ NB410_430.out _; (with_reducible repeat (first | refine blk_drewN ?_ _ | refine blk_drew ?_ | refine blk_alloc ?_ _)); refine blk_far ?_ NB410_430.out _; (with_reducible repeat (first | refine blk_drewN ?_ _ | refine blk_drew ?_ | refine blk_alloc ?_ _)); refine blk_far ?_ NB410_430.out _; (with_reducible repeat (first | refine blk_drewN ?_ _ | refine blk_drew ?_ | refine blk_alloc ?_ _)); refine blk_far ?_ NB410_430.out _; (with_reducible repeat (first | refine blk_drewN ?_ _ | refine blk_drew ?_ | refine blk_alloc ?_ _)); exact BK410.out) hb); replace BK416 := Aside0.mk (blk_below (g := gb416) (o := .cells #[.int .i64 t411, .int .i64 t412, .int .i64 t413, .int .i64 t414] 25 (0, 0)) (by (with_reducible repeat (first | refine blk_drewN ?_ _ | refine blk_drew ?_ | refine blk_alloc ?_ _)); refine blk_far ?_ NB416_430.out _; (with_reducible repeat (first | refine blk_drewN ?_ _ | refine blk_drew ?_ | refine blk_alloc ?_ _)); refine blk_far ?_ NB416_430.out _; (with_reducible repeat (first | refine blk_drewN ?_ _ | refine blk_drew ?_ | refine blk_alloc ?_ _)); refine blk_far ?_ NB416_430.out _; (with_reducible repeat (first | refine blk_drewN ?_ _ | refine blk_drew ?_ | refine blk_alloc ?_ _)); refine blk_far ?_ NB416_430.out _; (with_reducible repeat (first | refine blk_drewN ?_ _ | refine blk_drew ?_ | refine blk_alloc ?_ _)); exact BK416.out) hb); replace BK424 := Aside0.mk (blk_below (g := gb424) (o := .cells #[.int .i64 t419, .int .i64 t420, .int .i64 t421, .int .i64 t422] 25 (0, 0)) (by (with_reducible repeat (first | refine blk_drewN ?_ _ | refine blk_drew ?_ | refine blk_alloc ?_ _)); refine blk_far ?_ NB424_430.out _; (with_reducible repeat (first | refine blk_drewN ?_ _ | refine blk_drew ?_ | refine blk_alloc ?_ _)); refine blk_far ?_ NB424_430.out _; (with_reducible repeat (first | refine blk_drewN ?_ _ | refine blk_drew ?_ | refine blk_alloc ?_ _)); refine blk_far ?_ NB424_430.out _; (with_reducible repeat (first | refine blk_drewN ?_ _ | refine blk_drew ?_ | refine blk_alloc ?_ _)); refine blk_far ?_ NB424_430.out _; (with_reducible repeat (first | refine blk_drewN ?_ _ | refine blk_drew ?_ | refine blk_alloc ?_ _)); exact BK424.out) hb); replace BK430 := Aside0.mk (blk_below (g := gb430) (o := .cells #[.int .i64 t425, .int .i64 t426, .int .i64 t427, .int .i64 t428] 25 (0, 0)) (by (with_reducible repeat (first | refine blk_drewN ?_ _ | refine blk_drew ?_ | refine blk_alloc ?_ _)); refine blk_put (cs := #[.int .i64 t425, .int .i64 t426, .int .i64 t427, .int .i64 0]) ?_ 3 _ rfl; (with_reducible repeat (first | refine blk_drewN ?_ _ | refine blk_drew ?_ | refine blk_alloc ?_ _)); refine blk_put (cs := #[.int .i64 t425, .int .i64 t426, .int .i64 0, .int .i64 0]) ?_ 2 _ rfl; (with_reducible repeat (first | refine blk_drewN ?_ _ | refine blk_drew ?_ | refine blk_alloc ?_ _)); refine blk_put (cs := #[.int .i64 t425, .int .i64 0, .int .i64 0, .int .i64 0]) ?_ 1 _ rfl; (with_reducible repeat (first | refine blk_drewN ?_ _ | refine blk_drew ?_ | refine blk_alloc ?_ _)); refine blk_put (cs := #[.int .i64 0, .int .i64 0, .int .i64 0, .int .i64 0]) ?_ 0 _ rfl; (with_reducible repeat (first | refine blk_drewN ?_ _ | refine blk_drew ?_ | refine blk_alloc ?_ _)); exact BK430.out) hb); replace HB := Aside0.mk (below_step (by repeat (first | (with_reducible first | exact HB.out | apply below_alloc | apply pw_below_drewN | apply below_drew1 | refine below_set ?_ GE393.out | refine below_set ?_ GE394.out | refine below_set ?_ GE410.out | refine below_set ?_ GE416.out | refine below_set ?_ GE424.out | refine below_set ?_ GE430.out) | exact HB.out)) hb); clear hb))
                 go_meet
                 case rel => exact ⟨_, H', ⟨(by have := HJ9.out; first | omega | exact Nat.le_refl _)⟩, ⟨Z88⟩, ⟨Z89⟩, ⟨(by repeat (first | (with_reducible first | exact HB.out | apply below_alloc | apply pw_below_drewN | apply below_drew1 | refine below_set ?_ GE393.out | refine below_set ?_ GE394.out | refine below_set ?_ GE410.out | refine below_set ?_ GE416.out | refine below_set ?_ GE424.out | refine below_set ?_ GE430.out) | exact HB.out))⟩⟩
                ·
                 rw [if_neg c52] at H
                 have c52b0 : (t431 == t395) = false := beq_eq_false_iff_ne.mpr c52
                 have c52b1 : (t431 != t395) = true := bne_iff_ne.mpr c52
                 exact absurd (Option.some.inj H) (by decide)
               ·
                replace c51 := Bool.eq_false_iff.mpr c51
                subst c51
                have H1 : (some false) = some true := by rw [if_neg (show ¬ (false = true) by decide)] at H; exact H
                clear H
                have H := H1
                clear H1
                exact absurd (Option.some.inj H) (by decide)
              ·
               replace c50 := Bool.eq_false_iff.mpr c50
               subst c50
               have H1 : (some false) = some true := by rw [if_neg (show ¬ (false = true) by decide)] at H; exact H
               clear H
               have H := H1
               clear H1
               exact absurd (Option.some.inj H) (by decide)
             ·
              replace c49 := Bool.eq_false_iff.mpr c49
              subst c49
              have H1 : (some false) = some true := by rw [if_neg (show ¬ (false = true) by decide)] at H; exact H
              clear H
              have H := H1
              clear H1
              exact absurd (Option.some.inj H) (by decide)
            ·
             rw [if_neg c48] at H
             have c48b0 : (t417 == t395) = false := beq_eq_false_iff_ne.mpr c48
             have c48b1 : (t417 != t395) = true := bne_iff_ne.mpr c48
             exact absurd (Option.some.inj H) (by decide)
           ·
            replace c47 := Bool.eq_false_iff.mpr c47
            subst c47
            have H1 : (some false) = some true := by rw [if_neg (show ¬ (false = true) by decide)] at H; exact H
            clear H
            have H := H1
            clear H1
            exact absurd (Option.some.inj H) (by decide)
          ·
           replace c46 := Bool.eq_false_iff.mpr c46
           subst c46
           have H1 : (some false) = some true := by rw [if_neg (show ¬ (false = true) by decide)] at H; exact H
           clear H
           have H := H1
           clear H1
           exact absurd (Option.some.inj H) (by decide)
         ·
          replace c45 := Bool.eq_false_iff.mpr c45
          subst c45
          have H1 : (some false) = some true := by rw [if_neg (show ¬ (false = true) by decide)] at H; exact H
          clear H
          have H := H1
          clear H1
          exact absurd (Option.some.inj H) (by decide)
        ·
         rw [if_neg c44] at H
         have c44b0 : (t403 == 2) = false := beq_eq_false_iff_ne.mpr c44
         have c44b1 : (t403 != 2) = true := bne_iff_ne.mpr c44
         (first | rw [c44b0] | (simp only [i64_w, i32_w]; rw [c44b0]) | rw [c44b1] | skip)
         exact absurd (Option.some.inj H) (by decide)
       ·
        replace c43 := Bool.eq_false_iff.mpr c43
        subst c43
        have H1 : (some false) = some true := by rw [if_neg (show ¬ (false = true) by decide)] at H; exact H
        clear H
        have H := H1
        clear H1
        exact absurd (Option.some.inj H) (by decide)
      · as_aux_lemma =>
       replace c35 := Bool.eq_false_iff.mpr c35
       subst c35
       have H1 : (laws_FnCirclesTouch.j1 kj9 l1 t385 t386 t387 t388) = some true := by rw [if_neg (show ¬ (false = true) by decide)] at H; exact H
       clear H
       have H := H1
       clear H1
       have H' := Aside0.mk H
       clear H
       go_wp2
       go_meet
       case rel => exact ⟨_, H', ⟨(by have := HJ9.out; first | omega | exact Nat.le_refl _)⟩, ⟨Z88⟩, ⟨Z89⟩, ⟨Z102⟩⟩
     case rest =>
      clear HC34
      obtain ⟨kq, HA, HJ33, BK393, BK394, HB⟩ := hcut
      cases kq with
      | zero => exact absurd HA.out (by simp [laws_FnCirclesTouch.j1])
      | succ kj33 =>
       have H := HA.out
       clear HA
       simp only [laws_FnCirclesTouch.j1] at H
       replace H := Option.bind_eq_some_iff.mp H
       obtain ⟨⟨t433, t434, t435, t436, t437, t438⟩, A4600, H⟩ := H
       replace H : ((impl_ShiftCircle.f t433 t434 t435 t436 t437 t438).bind fun bt440 => ((spec_ShiftCircle.f kj33 t433 t434 t435 t436 t437 t438).bind fun bt446 => (if (bt440.2.2.2.2 != bt446.2.2.2.2) = true then (laws_FnCirclesTouch.j2 kj33 l1 t437 t438 bt440.2.2.2.2 true t385 t386 t387 t388 t433 t434 t435 t436 bt440.1 bt440.2.1 bt440.2.2.1 bt440.2.2.2.1) else (laws_FnCirclesTouch.j2 kj33 l1 t437 t438 bt440.2.2.2.2 (!(bt440.1 == bt446.1) || (!(bt440.2.1 == bt446.2.1) || (!(bt440.2.2.1 == bt446.2.2.1) || (!(bt440.2.2.2.1 == bt446.2.2.2.1))))) t385 t386 t387 t388 t433 t434 t435 t436 bt440.1 bt440.2.1 bt440.2.2.1 bt440.2.2.2.1)))) = some true := H
       have A460 := Aside0.mk A4600
       clear A4600
       replace H := Option.bind_eq_some_iff.mp H
       obtain ⟨⟨t440, t441, t442, t443, t444⟩, A4610, H⟩ := H
       replace H : ((spec_ShiftCircle.f kj33 t433 t434 t435 t436 t437 t438).bind fun bt446 => (if (t444 != bt446.2.2.2.2) = true then (laws_FnCirclesTouch.j2 kj33 l1 t437 t438 t444 true t385 t386 t387 t388 t433 t434 t435 t436 t440 t441 t442 t443) else (laws_FnCirclesTouch.j2 kj33 l1 t437 t438 t444 (!(t440 == bt446.1) || (!(t441 == bt446.2.1) || (!(t442 == bt446.2.2.1) || (!(t443 == bt446.2.2.2.1))))) t385 t386 t387 t388 t433 t434 t435 t436 t440 t441 t442 t443))) = some true := H
       have A461 := Aside0.mk A4610
       clear A4610
       replace H := Option.bind_eq_some_iff.mp H
       obtain ⟨⟨t446, t447, t448, t449, t450⟩, A4620, H⟩ := H
       replace H : (if (t444 != t450) = true then (laws_FnCirclesTouch.j2 kj33 l1 t437 t438 t444 true t385 t386 t387 t388 t433 t434 t435 t436 t440 t441 t442 t443) else (laws_FnCirclesTouch.j2 kj33 l1 t437 t438 t444 (!(t440 == t446) || (!(t441 == t447) || (!(t442 == t448) || (!(t443 == t449))))) t385 t386 t387 t388 t433 t434 t435 t436 t440 t441 t442 t443)) = some true := H
       have A462 := Aside0.mk A4620
       clear A4620
       have HC463 := Aside0.mk H
       clear H
       go_upto_region 23 with (first | ((with_reducible refine gate_callee (f := 12) rfl ?_); refine goesN_ 12 (some 197) Try.func12 #[.slice A1 l1.length c1] ?_; (with_reducible refine (spec_DrawShiftCircle.calls kj33 _ _ l1 t433 t434 t435 t436 t437 t438 _ ?side1 ?side2 A460.out).mono ?_); (case side1 => repeat (first | exact (Kd.C_below HR1.out HB.out) | (with_reducible refine Kd.C_alloc ?_ _) | (with_reducible refine Kd.C_drewN ?_ _) | (with_reducible refine Kd.C_drew ?_))); (case side2 => exact HC1.out); rintro e w464 ⟨rfl, hb⟩; refine ⟨_, rfl, ?_⟩; replace BK393 := bk_ BK393 hb; replace BK394 := bk_ BK394 hb; replace HB := Aside0.mk (below_step Z102 hb); clear hb) | ((with_reducible refine gate_dst (N := 29) rfl ?_); refine boxN_ 29 #[.int .i64 0, .int .i64 0, .int .i64 0, .int .i64 0] 25 ?_; intro gb439 hg w465 hbox hb; have BK439 := Aside0.mk hbox; have GW439 := gw_ (w := w) Z102 hg; have GE439 := gw_ (w := w) Z102 hg; replace HB := Aside0.mk (below_step Z102 hb); have NB393_439 := nl_ BK393 hg; have NB439_393 := ng_ BK393 hg; replace BK393 := bk_ BK393 hb; have NB394_439 := nl_ BK394 hg; have NB439_394 := ng_ BK394 hg; replace BK394 := bk_ BK394 hb; clear hb hbox hg; have hnb466 := NB439_393.out; have hnc466 := NB393_439.out; have hnb467 := NB439_394.out; have hnc467 := NB394_439.out; obtain ⟨_, _, _, _, _, _, _, _⟩ := cz4_ BK439) | ((with_reducible refine gate_callee (f := 13) rfl ?_); refine goesN_ 13 (some 205) Try.func13 #[.agg #[.int .i64 t433, .int .i64 t434, .int .i64 t435, .int .i64 t436], .int .i64 t437, .int .i64 t438] ?_; (with_reducible refine (impl_ShiftCircle.calls t433 t434 t435 t436 t437 t438 t440 t441 t442 t443 t444 _ A461.out).mono ?_); rintro e w469 ⟨rfl, hb⟩; refine ⟨_, rfl, ?_⟩; replace BK393 := Aside0.mk (blk_below (g := gb393) (o := .cells #[.int .i64 t385, .int .i64 t386, .int .i64 t387, .int .i64 t388] 25 (0, 0)) (by (with_reducible repeat (first | refine blk_drewN ?_ _ | refine blk_drew ?_ | refine blk_alloc ?_ _)); refine blk_far ?_ NB393_439.out _; (with_reducible repeat (first | refine blk_drewN ?_ _ | refine blk_drew ?_ | refine blk_alloc ?_ _)); refine blk_far ?_ NB393_439.out _; (with_reducible repeat (first | refine blk_drewN ?_ _ | refine blk_drew ?_ | refine blk_alloc ?_ _)); refine blk_far ?_ NB393_439.out _; (with_reducible repeat (first | refine blk_drewN ?_ _ | refine blk_drew ?_ | refine blk_alloc ?_ _)); refine blk_far ?_ NB393_439.out _; (with_reducible repeat (first | refine blk_drewN ?_ _ | refine blk_drew ?_ | refine blk_alloc ?_ _)); exact BK393.out) hb); replace BK394 := Aside0.mk (blk_below (g := gb394) (o := .cells #[.int .i64 t389, .int .i64 t390, .int .i64 t391, .int .i64 t392] 25 (0, 0)) (by (with_reducible repeat (first | refine blk_drewN ?_ _ | refine blk_drew ?_ | refine blk_alloc ?_ _)); refine blk_far ?_ NB394_439.out _; (with_reducible repeat (first | refine blk_drewN ?_ _ | refine blk_drew ?_ | refine blk_alloc ?_ _)); refine blk_far ?_ NB394_439.out _; (with_reducible repeat (first | refine blk_drewN ?_ _ | refine blk_drew ?_ | refine blk_alloc ?_ _)); refine blk_far ?_ NB394_439.out _; (with_reducible repeat (first | refine blk_drewN ?_ _ | refine blk_drew ?_ | refine blk_alloc ?_ _)); refine blk_far ?_ NB394_439.out _; (with_reducible repeat (first | refine blk_drewN ?_ _ | refine blk_drew ?_ | refine blk_alloc ?_ _)); exact BK394.out) hb); replace BK439 := Aside0.mk (blk_below (g := gb439) (o := .cells #[.int .i64 t433, .int .i64 t434, .int .i64 t435, .int .i64 t436] 25 (0, 0)) (by (with_reducible repeat (first | refine blk_drewN ?_ _ | refine blk_drew ?_ | refine blk_alloc ?_ _)); refine blk_put (cs := #[.int .i64 t433, .int .i64 t434, .int .i64 t435, .int .i64 0]) ?_ 3 _ rfl; (with_reducible repeat (first | refine blk_drewN ?_ _ | refine blk_drew ?_ | refine blk_alloc ?_ _)); refine blk_put (cs := #[.int .i64 t433, .int .i64 t434, .int .i64 0, .int .i64 0]) ?_ 2 _ rfl; (with_reducible repeat (first | refine blk_drewN ?_ _ | refine blk_drew ?_ | refine blk_alloc ?_ _)); refine blk_put (cs := #[.int .i64 t433, .int .i64 0, .int .i64 0, .int .i64 0]) ?_ 1 _ rfl; (with_reducible repeat (first | refine blk_drewN ?_ _ | refine blk_drew ?_ | refine blk_alloc ?_ _)); refine blk_put (cs := #[.int .i64 0, .int .i64 0, .int .i64 0, .int .i64 0]) ?_ 0 _ rfl; (with_reducible repeat (first | refine blk_drewN ?_ _ | refine blk_drew ?_ | refine blk_alloc ?_ _)); exact BK439.out) hb); replace HB := Aside0.mk (below_step Z31 hb); clear hb) | ((with_reducible refine gate_dst (N := 32) rfl ?_); refine boxN_ 32 #[.int .i64 0, .int .i64 0, .int .i64 0, .int .i64 0] 25 ?_; intro gb445 hg w470 hbox hb; have BK445 := Aside0.mk hbox; have GW445 := gw_ (w := w) Z31 hg; have GE445 := gw_ (w := w) Z31 hg; replace HB := Aside0.mk (below_step Z31 hb); have NB393_445 := nl_ BK393 hg; have NB445_393 := ng_ BK393 hg; replace BK393 := bk_ BK393 hb; have NB394_445 := nl_ BK394 hg; have NB445_394 := ng_ BK394 hg; replace BK394 := bk_ BK394 hb; have NB439_445 := nl_ BK439 hg; have NB445_439 := ng_ BK439 hg; replace BK439 := bk_ BK439 hb; clear hb hbox hg; have hnb471 := NB445_393.out; have hnc471 := NB393_445.out; have hnb472 := NB445_394.out; have hnc472 := NB394_445.out; have hnb473 := NB445_439.out; have hnc473 := NB439_445.out; obtain ⟨_, _, _, _, _, _, _, _⟩ := cz4_ BK445; obtain ⟨_, _, _, _, _, _, _, _⟩ := cz4_ BK439) | ((with_reducible refine gate_callee (f := 14) rfl ?_); refine goesN_ 14 (some 212) Try.func14 #[.agg #[.int .i64 t433, .int .i64 t434, .int .i64 t435, .int .i64 t436], .int .i64 t437, .int .i64 t438] ?_; (with_reducible refine (spec_ShiftCircle.calls kj33 t433 t434 t435 t436 t437 t438 t446 t447 t448 t449 t450 _ A462.out).mono ?_); rintro e w476 ⟨rfl, hb⟩; refine ⟨_, rfl, ?_⟩; replace BK393 := Aside0.mk (blk_below (g := gb393) (o := .cells #[.int .i64 t385, .int .i64 t386, .int .i64 t387, .int .i64 t388] 25 (0, 0)) (by (with_reducible repeat (first | refine blk_drewN ?_ _ | refine blk_drew ?_ | refine blk_alloc ?_ _)); refine blk_far ?_ NB393_445.out _; (with_reducible repeat (first | refine blk_drewN ?_ _ | refine blk_drew ?_ | refine blk_alloc ?_ _)); refine blk_far ?_ NB393_445.out _; (with_reducible repeat (first | refine blk_drewN ?_ _ | refine blk_drew ?_ | refine blk_alloc ?_ _)); refine blk_far ?_ NB393_445.out _; (with_reducible repeat (first | refine blk_drewN ?_ _ | refine blk_drew ?_ | refine blk_alloc ?_ _)); refine blk_far ?_ NB393_445.out _; (with_reducible repeat (first | refine blk_drewN ?_ _ | refine blk_drew ?_ | refine blk_alloc ?_ _)); exact BK393.out) hb); replace BK394 := Aside0.mk (blk_below (g := gb394) (o := .cells #[.int .i64 t389, .int .i64 t390, .int .i64 t391, .int .i64 t392] 25 (0, 0)) (by (with_reducible repeat (first | refine blk_drewN ?_ _ | refine blk_drew ?_ | refine blk_alloc ?_ _)); refine blk_far ?_ NB394_445.out _; (with_reducible repeat (first | refine blk_drewN ?_ _ | refine blk_drew ?_ | refine blk_alloc ?_ _)); refine blk_far ?_ NB394_445.out _; (with_reducible repeat (first | refine blk_drewN ?_ _ | refine blk_drew ?_ | refine blk_alloc ?_ _)); refine blk_far ?_ NB394_445.out _; (with_reducible repeat (first | refine blk_drewN ?_ _ | refine blk_drew ?_ | refine blk_alloc ?_ _)); refine blk_far ?_ NB394_445.out _; (with_reducible repeat (first | refine blk_drewN ?_ _ | refine blk_drew ?_ | refine blk_alloc ?_ _)); exact BK394.out) hb); replace BK439 := Aside0.mk (blk_below (g := gb439) (o := .cells #[.int .i64 t433, .int .i64 t434, .int .i64 t435, .int .i64 t436] 25 (0, 0)) (by (with_reducible repeat (first | refine blk_drewN ?_ _ | refine blk_drew ?_ | refine blk_alloc ?_ _)); refine blk_far ?_ NB439_445.out _; (with_reducible repeat (first | refine blk_drewN ?_ _ | refine blk_drew ?_ | refine blk_alloc ?_ _)); refine blk_far ?_ NB439_445.out _; (with_reducible repeat (first | refine blk_drewN ?_ _ | refine blk_drew ?_ | refine blk_alloc ?_ _)); refine blk_far ?_ NB439_445.out _; (with_reducible repeat (first | refine blk_drewN ?_ _ | refine blk_drew ?_ | refine blk_alloc ?_ _)); refine blk_far ?_ NB439_445.out _; (with_reducible repeat (first | refine blk_drewN ?_ _ | refine blk_drew ?_ | refine blk_alloc ?_ _)); exact BK439.out) hb); replace BK445 := Aside0.mk (blk_below (g := gb445) (o := .cells #[.int .i64 t440, .int .i64 t441, .int .i64 t442, .int .i64 t443] 25 (0, 0)) (by (with_reducible repeat (first | refine blk_drewN ?_ _ | refine blk_drew ?_ | refine blk_alloc ?_ _)); refine blk_put (cs := #[.int .i64 t440, .int .i64 t441, .int .i64 t442, .int .i64 0]) ?_ 3 _ rfl; (with_reducible repeat (first | refine blk_drewN ?_ _ | refine blk_drew ?_ | refine blk_alloc ?_ _)); refine blk_put (cs := #[.int .i64 t440, .int .i64 t441, .int .i64 0, .int .i64 0]) ?_ 2 _ rfl; (with_reducible repeat (first | refine blk_drewN ?_ _ | refine blk_drew ?_ | refine blk_alloc ?_ _)); refine blk_put (cs := #[.int .i64 t440, .int .i64 0, .int .i64 0, .int .i64 0]) ?_ 1 _ rfl; (with_reducible repeat (first | refine blk_drewN ?_ _ | refine blk_drew ?_ | refine blk_alloc ?_ _)); refine blk_put (cs := #[.int .i64 0, .int .i64 0, .int .i64 0, .int .i64 0]) ?_ 0 _ rfl; (with_reducible repeat (first | refine blk_drewN ?_ _ | refine blk_drew ?_ | refine blk_alloc ?_ _)); exact BK445.out) hb); replace HB := Aside0.mk (below_step Z33 hb); clear hb) | ((with_reducible refine gate_dst (N := 34) rfl ?_); refine boxN_ 34 #[.int .i64 0, .int .i64 0, .int .i64 0, .int .i64 0] 25 ?_; intro gb451 hg w477 hbox hb; have BK451 := Aside0.mk hbox; have GW451 := gw_ (w := w) Z33 hg; have GE451 := gw_ (w := w) Z33 hg; replace HB := Aside0.mk (below_step Z33 hb); have NB393_451 := nl_ BK393 hg; have NB451_393 := ng_ BK393 hg; replace BK393 := bk_ BK393 hb; have NB394_451 := nl_ BK394 hg; have NB451_394 := ng_ BK394 hg; replace BK394 := bk_ BK394 hb; have NB439_451 := nl_ BK439 hg; have NB451_439 := ng_ BK439 hg; replace BK439 := bk_ BK439 hb; have NB445_451 := nl_ BK445 hg; have NB451_445 := ng_ BK445 hg; replace BK445 := bk_ BK445 hb; clear hb hbox hg; have hnb478 := NB451_393.out; have hnc478 := NB393_451.out; have hnb479 := NB451_394.out; have hnc479 := NB394_451.out; have hnb480 := NB451_439.out; have hnc480 := NB439_451.out; have hnb481 := NB451_445.out; have hnc481 := NB445_451.out; obtain ⟨_, _, _, _, _, _, _, _⟩ := cz4_ BK451))
       (try simp only [Act.put, sA_, sB_, sC_])
       go_cut [222] from 198 to 223 (fun v222 wc => ∃ (kq : Nat) (x222_462 : Bool), v222 = .bool x222_462 ∧ Aside0 (laws_FnCirclesTouch.j2 kq l1 t437 t438 t444 x222_462 t385 t386 t387 t388 t433 t434 t435 t436 t440 t441 t442 t443 = some true) ∧ Aside0 (kq ≤ kj33) ∧ Aside0 (wc.heap[gb393]? = some (.cells #[.int .i64 t385, .int .i64 t386, .int .i64 t387, .int .i64 t388] 25 (0, 0))) ∧ Aside0 (wc.heap[gb394]? = some (.cells #[.int .i64 t389, .int .i64 t390, .int .i64 t391, .int .i64 t392] 25 (0, 0))) ∧ Aside0 (wc.heap[gb439]? = some (.cells #[.int .i64 t433, .int .i64 t434, .int .i64 t435, .int .i64 t436] 25 (0, 0))) ∧ Aside0 (wc.heap[gb445]? = some (.cells #[.int .i64 t440, .int .i64 t441, .int .i64 t442, .int .i64 t443] 25 (0, 0))) ∧ Aside0 (wc.heap[gb451]? = some (.cells #[.int .i64 t446, .int .i64 t447, .int .i64 t448, .int .i64 t449] 25 (0, 0))) ∧ Aside0 (Below w.heap.size w wc))
       case first => as_aux_lemma =>
        have H := HC463.out
        clear HC463
        by_cases c483 : (t444 != t450) = true
        · as_aux_lemma =>
         rw [if_pos c483] at H
         have c483b0 : (t444 != t450) = true := c483
         (try (have c483b1 : decide (t444 = t450) = false := by simpa using c483))
         (try (have c483b2 : (t444 == t450) = false := by simpa using c483))
         (try (have c483b3 : ¬ (t444 = t450) := by simpa using c483))
         clear c483
         (first | rw [c483b0] | (simp only [i64_w, i32_w]; rw [c483b0]) | rw [c483b1] | skip)
         have H' := Aside0.mk H
         clear H
         go_wp2
         go_meet
         case rel => exact ⟨_, (true), Z91, H', ⟨(by have := HJ9.out; have := HJ33.out; first | omega | exact Nat.le_refl _)⟩, ⟨(by (with_reducible repeat (first | refine blk_drewN ?_ _ | refine blk_drew ?_ | refine blk_alloc ?_ _)); refine blk_far ?_ NB393_451.out _; (with_reducible repeat (first | refine blk_drewN ?_ _ | refine blk_drew ?_ | refine blk_alloc ?_ _)); refine blk_far ?_ NB393_451.out _; (with_reducible repeat (first | refine blk_drewN ?_ _ | refine blk_drew ?_ | refine blk_alloc ?_ _)); refine blk_far ?_ NB393_451.out _; (with_reducible repeat (first | refine blk_drewN ?_ _ | refine blk_drew ?_ | refine blk_alloc ?_ _)); refine blk_far ?_ NB393_451.out _; (with_reducible repeat (first | refine blk_drewN ?_ _ | refine blk_drew ?_ | refine blk_alloc ?_ _)); exact BK393.out)⟩, ⟨(by (with_reducible repeat (first | refine blk_drewN ?_ _ | refine blk_drew ?_ | refine blk_alloc ?_ _)); refine blk_far ?_ NB394_451.out _; (with_reducible repeat (first | refine blk_drewN ?_ _ | refine blk_drew ?_ | refine blk_alloc ?_ _)); refine blk_far ?_ NB394_451.out _; (with_reducible repeat (first | refine blk_drewN ?_ _ | refine blk_drew ?_ | refine blk_alloc ?_ _)); refine blk_far ?_ NB394_451.out _; (with_reducible repeat (first | refine blk_drewN ?_ _ | refine blk_drew ?_ | refine blk_alloc ?_ _)); refine blk_far ?_ NB394_451.out _; (with_reducible repeat (first | refine blk_drewN ?_ _ | refine blk_drew ?_ | refine blk_alloc ?_ _)); exact BK394.out)⟩, ⟨(by (with_reducible repeat (first | refine blk_drewN ?_ _ | refine blk_drew ?_ | refine blk_alloc ?_ _)); refine blk_far ?_ NB439_451.out _; (with_reducible repeat (first | refine blk_drewN ?_ _ | refine blk_drew ?_ | refine blk_alloc ?_ _)); refine blk_far ?_ NB439_451.out _; (with_reducible repeat (first | refine blk_drewN ?_ _ | refine blk_drew ?_ | refine blk_alloc ?_ _)); refine blk_far ?_ NB439_451.out _; (with_reducible repeat (first | refine blk_drewN ?_ _ | refine blk_drew ?_ | refine blk_alloc ?_ _)); refine blk_far ?_ NB439_451.out _; (with_reducible repeat (first | refine blk_drewN ?_ _ | refine blk_drew ?_ | refine blk_alloc ?_ _)); exact BK439.out)⟩, ⟨(by (with_reducible repeat (first | refine blk_drewN ?_ _ | refine blk_drew ?_ | refine blk_alloc ?_ _)); refine blk_far ?_ NB445_451.out _; (with_reducible repeat (first | refine blk_drewN ?_ _ | refine blk_drew ?_ | refine blk_alloc ?_ _)); refine blk_far ?_ NB445_451.out _; (with_reducible repeat (first | refine blk_drewN ?_ _ | refine blk_drew ?_ | refine blk_alloc ?_ _)); refine blk_far ?_ NB445_451.out _; (with_reducible repeat (first | refine blk_drewN ?_ _ | refine blk_drew ?_ | refine blk_alloc ?_ _)); refine blk_far ?_ NB445_451.out _; (with_reducible repeat (first | refine blk_drewN ?_ _ | refine blk_drew ?_ | refine blk_alloc ?_ _)); exact BK445.out)⟩, ⟨(by (with_reducible repeat (first | refine blk_drewN ?_ _ | refine blk_drew ?_ | refine blk_alloc ?_ _)); refine blk_put (cs := #[.int .i64 t446, .int .i64 t447, .int .i64 t448, .int .i64 0]) ?_ 3 _ rfl; (with_reducible repeat (first | refine blk_drewN ?_ _ | refine blk_drew ?_ | refine blk_alloc ?_ _)); refine blk_put (cs := #[.int .i64 t446, .int .i64 t447, .int .i64 0, .int .i64 0]) ?_ 2 _ rfl; (with_reducible repeat (first | refine blk_drewN ?_ _ | refine blk_drew ?_ | refine blk_alloc ?_ _)); refine blk_put (cs := #[.int .i64 t446, .int .i64 0, .int .i64 0, .int .i64 0]) ?_ 1 _ rfl; (with_reducible repeat (first | refine blk_drewN ?_ _ | refine blk_drew ?_ | refine blk_alloc ?_ _)); refine blk_put (cs := #[.int .i64 0, .int .i64 0, .int .i64 0, .int .i64 0]) ?_ 0 _ rfl; (with_reducible repeat (first | refine blk_drewN ?_ _ | refine blk_drew ?_ | refine blk_alloc ?_ _)); exact BK451.out)⟩, ⟨Z99⟩⟩
        · as_aux_lemma =>
         rw [if_neg c483] at H
         have c483b0 : (t444 != t450) = false := by simpa using c483
         (try (have c483b1 : decide (t444 = t450) = true := by simpa using c483))
         (try (have c483b2 : (t444 == t450) = true := by simpa using c483))
         clear c483
         (first | rw [c483b0] | (simp only [i64_w, i32_w]; rw [c483b0]) | rw [c483b1] | skip)
         have H' := Aside0.mk H
         clear H
         have hnb484 := NB445_393.out
         have hnc484 := NB393_445.out
         have hnb485 := NB445_394.out
         have hnc485 := NB394_445.out
         have hnb486 := NB445_439.out
         have hnc486 := NB439_445.out
         have hnb487 := NB445_451.out
         have hnc487 := NB451_445.out
         have hcz488_0 : w477.cell? ⟨gb445, 0, none⟩ = some (.int .i64 t440) := (blk_cell BK445.out 0).trans rfl
         have hcz488_1 : w477.cell? ⟨gb445, 1, none⟩ = some (.int .i64 t441) := (blk_cell BK445.out 1).trans rfl
         have hcz488_2 : w477.cell? ⟨gb445, 2, none⟩ = some (.int .i64 t442) := (blk_cell BK445.out 2).trans rfl
         have hcz488_3 : w477.cell? ⟨gb445, 3, none⟩ = some (.int .i64 t443) := (blk_cell BK445.out 3).trans rfl
         have hfz488_0 := blk_frozen BK445.out 0
         have hfz488_1 := blk_frozen BK445.out 1
         have hfz488_2 := blk_frozen BK445.out 2
         have hfz488_3 := blk_frozen BK445.out 3
         have hnb489 := NB451_393.out
         have hnc489 := NB393_451.out
         have hnb490 := NB451_394.out
         have hnc490 := NB394_451.out
         have hnb491 := NB451_439.out
         have hnc491 := NB439_451.out
         have hcz492_0 : w477.cell? ⟨gb451, 0, none⟩ = some (.int .i64 0) := (blk_cell BK451.out 0).trans rfl
         have hcz492_1 : w477.cell? ⟨gb451, 1, none⟩ = some (.int .i64 0) := (blk_cell BK451.out 1).trans rfl
         have hcz492_2 : w477.cell? ⟨gb451, 2, none⟩ = some (.int .i64 0) := (blk_cell BK451.out 2).trans rfl
         have hcz492_3 : w477.cell? ⟨gb451, 3, none⟩ = some (.int .i64 0) := (blk_cell BK451.out 3).trans rfl
         have hfz492_0 := blk_frozen BK451.out 0
         have hfz492_1 := blk_frozen BK451.out 1
         have hfz492_2 := blk_frozen BK451.out 2
         have hfz492_3 := blk_frozen BK451.out 3
         go_wp2
         all_goals (go_meet; case rel => exact ⟨_, ((!(t440 == t446) || (!(t441 == t447) || (!(t442 == t448) || (!(t443 == t449)))))), Z91, H', ⟨(by have := HJ9.out; have := HJ33.out; first | omega | exact Nat.le_refl _)⟩, ⟨(by (with_reducible repeat (first | refine blk_drewN ?_ _ | refine blk_drew ?_ | refine blk_alloc ?_ _)); refine blk_far ?_ NB393_451.out _; (with_reducible repeat (first | refine blk_drewN ?_ _ | refine blk_drew ?_ | refine blk_alloc ?_ _)); refine blk_far ?_ NB393_451.out _; (with_reducible repeat (first | refine blk_drewN ?_ _ | refine blk_drew ?_ | refine blk_alloc ?_ _)); refine blk_far ?_ NB393_451.out _; (with_reducible repeat (first | refine blk_drewN ?_ _ | refine blk_drew ?_ | refine blk_alloc ?_ _)); refine blk_far ?_ NB393_451.out _; (with_reducible repeat (first | refine blk_drewN ?_ _ | refine blk_drew ?_ | refine blk_alloc ?_ _)); exact BK393.out)⟩, ⟨(by (with_reducible repeat (first | refine blk_drewN ?_ _ | refine blk_drew ?_ | refine blk_alloc ?_ _)); refine blk_far ?_ NB394_451.out _; (with_reducible repeat (first | refine blk_drewN ?_ _ | refine blk_drew ?_ | refine blk_alloc ?_ _)); refine blk_far ?_ NB394_451.out _; (with_reducible repeat (first | refine blk_drewN ?_ _ | refine blk_drew ?_ | refine blk_alloc ?_ _)); refine blk_far ?_ NB394_451.out _; (with_reducible repeat (first | refine blk_drewN ?_ _ | refine blk_drew ?_ | refine blk_alloc ?_ _)); refine blk_far ?_ NB394_451.out _; (with_reducible repeat (first | refine blk_drewN ?_ _ | refine blk_drew ?_ | refine blk_alloc ?_ _)); exact BK394.out)⟩, ⟨(by (with_reducible repeat (first | refine blk_drewN ?_ _ | refine blk_drew ?_ | refine blk_alloc ?_ _)); refine blk_far ?_ NB439_451.out _; (with_reducible repeat (first | refine blk_drewN ?_ _ | refine blk_drew ?_ | refine blk_alloc ?_ _)); refine blk_far ?_ NB439_451.out _; (with_reducible repeat (first | refine blk_drewN ?_ _ | refine blk_drew ?_ | refine blk_alloc ?_ _)); refine blk_far ?_ NB439_451.out _; (with_reducible repeat (first | refine blk_drewN ?_ _ | refine blk_drew ?_ | refine blk_alloc ?_ _)); refine blk_far ?_ NB439_451.out _; (with_reducible repeat (first | refine blk_drewN ?_ _ | refine blk_drew ?_ | refine blk_alloc ?_ _)); exact BK439.out)⟩, ⟨(by (with_reducible repeat (first | refine blk_drewN ?_ _ | refine blk_drew ?_ | refine blk_alloc ?_ _)); refine blk_far ?_ NB445_451.out _; (with_reducible repeat (first | refine blk_drewN ?_ _ | refine blk_drew ?_ | refine blk_alloc ?_ _)); refine blk_far ?_ NB445_451.out _; (with_reducible repeat (first | refine blk_drewN ?_ _ | refine blk_drew ?_ | refine blk_alloc ?_ _)); refine blk_far ?_ NB445_451.out _; (with_reducible repeat (first | refine blk_drewN ?_ _ | refine blk_drew ?_ | refine blk_alloc ?_ _)); refine blk_far ?_ NB445_451.out _; (with_reducible repeat (first | refine blk_drewN ?_ _ | refine blk_drew ?_ | refine blk_alloc ?_ _)); exact BK445.out)⟩, ⟨(by (with_reducible repeat (first | refine blk_drewN ?_ _ | refine blk_drew ?_ | refine blk_alloc ?_ _)); refine blk_put (cs := #[.int .i64 t446, .int .i64 t447, .int .i64 t448, .int .i64 0]) ?_ 3 _ rfl; (with_reducible repeat (first | refine blk_drewN ?_ _ | refine blk_drew ?_ | refine blk_alloc ?_ _)); refine blk_put (cs := #[.int .i64 t446, .int .i64 t447, .int .i64 0, .int .i64 0]) ?_ 2 _ rfl; (with_reducible repeat (first | refine blk_drewN ?_ _ | refine blk_drew ?_ | refine blk_alloc ?_ _)); refine blk_put (cs := #[.int .i64 t446, .int .i64 0, .int .i64 0, .int .i64 0]) ?_ 1 _ rfl; (with_reducible repeat (first | refine blk_drewN ?_ _ | refine blk_drew ?_ | refine blk_alloc ?_ _)); refine blk_put (cs := #[.int .i64 0, .int .i64 0, .int .i64 0, .int .i64 0]) ?_ 0 _ rfl; (with_reducible repeat (first | refine blk_drewN ?_ _ | refine blk_drew ?_ | refine blk_alloc ?_ _)); exact BK451.out)⟩, ⟨Z99⟩⟩)
       case rest =>
        clear HC463
        obtain ⟨kq, x222_462, rfl, HA, HJ462, BK393, BK394, BK439, BK445, BK451, HB⟩ := hcut
        cases kq with
        | zero => exact absurd HA.out (by simp [laws_FnCirclesTouch.j2])
        | succ kj462 =>
         have H := HA.out
         clear HA
         simp only [laws_FnCirclesTouch.j2] at H
         by_cases c493 : x222_462 = true
         ·
          subst c493
          have H1 : (some false) = some true := by rw [if_pos rfl] at H; exact H
          clear H
          have H := H1
          clear H1
          exact absurd (Option.some.inj H) (by decide)
         ·
          replace c493 := Bool.eq_false_iff.mpr c493
          subst c493
          have H1 : (if t444 = true then ((impl_ShiftCircle.f t440 t441 t442 t443 (wrap64 (-t437)) (wrap64 (-t438))).bind fun bt452 => ((impl_IsCircle.f t440 t441 t442 t443).bind fun t458 => (if t458 = true then (if bt452.2.2.2.2 = true then (laws_FnCirclesTouch.j3 kj462 l1 t437 t438 (!(bt452.1 == t433) || (!(bt452.2.1 == t434) || (!(bt452.2.2.1 == t435) || (!(bt452.2.2.2.1 == t436))))) t385 t386 t387 t388 t433 t434 t435 t436 t440 t441 t442 t443) else (laws_FnCirclesTouch.j3 kj462 l1 t437 t438 true t385 t386 t387 t388 t433 t434 t435 t436 t440 t441 t442 t443)) else (laws_FnCirclesTouch.j3 kj462 l1 t437 t438 true t385 t386 t387 t388 t433 t434 t435 t436 t440 t441 t442 t443)))) else (laws_FnCirclesTouch.j4 kj462 l1)) = some true := by rw [if_neg (show ¬ (false = true) by decide)] at H; exact H
          clear H
          have H := H1
          clear H1
          have HC494 := Aside0.mk H
          clear H
          go_upto_if 223 with (fail)
          go_cut [] from 195 to 302 (fun wc => ∃ (kq : Nat), Aside0 (laws_FnCirclesTouch.j4 kq l1 = some true) ∧ Aside0 (kq ≤ kj462) ∧ Aside0 (wc.heap[gb393]? = some (.cells #[.int .i64 t385, .int .i64 t386, .int .i64 t387, .int .i64 t388] 25 (0, 0))) ∧ Aside0 (wc.heap[gb394]? = some (.cells #[.int .i64 t389, .int .i64 t390, .int .i64 t391, .int .i64 t392] 25 (0, 0))) ∧ Aside0 (wc.heap[gb439]? = some (.cells #[.int .i64 t433, .int .i64 t434, .int .i64 t435, .int .i64 t436] 25 (0, 0))) ∧ Aside0 (wc.heap[gb445]? = some (.cells #[.int .i64 t440, .int .i64 t441, .int .i64 t442, .int .i64 t443] 25 (0, 0))) ∧ Aside0 (wc.heap[gb451]? = some (.cells #[.int .i64 t446, .int .i64 t447, .int .i64 t448, .int .i64 t449] 25 (0, 0))) ∧ Aside0 (Below w.heap.size w wc))
          case first => as_aux_lemma =>
           have H := HC494.out
           clear HC494
           by_cases c495 : t444 = true
           ·
            subst c495
            have H1 : ((impl_ShiftCircle.f t440 t441 t442 t443 (wrap64 (-t437)) (wrap64 (-t438))).bind fun bt452 => ((impl_IsCircle.f t440 t441 t442 t443).bind fun t458 => (if t458 = true then (if bt452.2.2.2.2 = true then (laws_FnCirclesTouch.j3 kj462 l1 t437 t438 (!(bt452.1 == t433) || (!(bt452.2.1 == t434) || (!(bt452.2.2.1 == t435) || (!(bt452.2.2.2.1 == t436))))) t385 t386 t387 t388 t433 t434 t435 t436 t440 t441 t442 t443) else (laws_FnCirclesTouch.j3 kj462 l1 t437 t438 true t385 t386 t387 t388 t433 t434 t435 t436 t440 t441 t442 t443)) else (laws_FnCirclesTouch.j3 kj462 l1 t437 t438 true t385 t386 t387 t388 t433 t434 t435 t436 t440 t441 t442 t443)))) = some true := by rw [if_pos rfl] at H; exact H
            clear H
            have H := H1
            clear H1
            replace H := Option.bind_eq_some_iff.mp H
            obtain ⟨⟨t452, t453, t454, t455, t456⟩, A4960, H⟩ := H
            replace H : ((impl_IsCircle.f t440 t441 t442 t443).bind fun t458 => (if t458 = true then (if t456 = true then (laws_FnCirclesTouch.j3 kj462 l1 t437 t438 (!(t452 == t433) || (!(t453 == t434) || (!(t454 == t435) || (!(t455 == t436))))) t385 t386 t387 t388 t433 t434 t435 t436 t440 t441 t442 t443) else (laws_FnCirclesTouch.j3 kj462 l1 t437 t438 true t385 t386 t387 t388 t433 t434 t435 t436 t440 t441 t442 t443)) else (laws_FnCirclesTouch.j3 kj462 l1 t437 t438 true t385 t386 t387 t388 t433 t434 t435 t436 t440 t441 t442 t443))) = some true := H
            have A496 := Aside0.mk A4960
            clear A4960
            have HC497 := Aside0.mk H
            clear H
            have hnb498 := NB445_393.out
            have hnc498 := NB393_445.out
            have hnb499 := NB445_394.out
            have hnc499 := NB394_445.out
            have hnb500 := NB445_439.out
            have hnc500 := NB439_445.out
            have hnb501 := NB445_451.out
            have hnc501 := NB451_445.out
            have hcz502_0 : wc.cell? ⟨gb445, 0, none⟩ = some (.int .i64 t440) := (blk_cell BK445.out 0).trans rfl
            have hcz502_1 : wc.cell? ⟨gb445, 1, none⟩ = some (.int .i64 t441) := (blk_cell BK445.out 1).trans rfl
            have hcz502_2 : wc.cell? ⟨gb445, 2, none⟩ = some (.int .i64 t442) := (blk_cell BK445.out 2).trans rfl
            have hcz502_3 : wc.cell? ⟨gb445, 3, none⟩ = some (.int .i64 t443) := (blk_cell BK445.out 3).trans rfl
            have hfz502_0 := blk_frozen BK445.out 0
            have hfz502_1 := blk_frozen BK445.out 1
            have hfz502_2 := blk_frozen BK445.out 2
            have hfz502_3 := blk_frozen BK445.out 3
            go_upto_region 27 with (first | ((with_reducible refine gate_callee (f := 13) rfl ?_); refine goesN_ 13 (some 230) Try.func13 #[.agg #[.int .i64 t440, .int .i64 t441, .int .i64 t442, .int .i64 t443], .int .i64 (wrap64 (-t437)), .int .i64 (wrap64 (-t438))] ?_; (with_reducible refine (impl_ShiftCircle.calls t440 t441 t442 t443 (wrap64 (-t437)) (wrap64 (-t438)) t452 t453 t454 t455 t456 _ A496.out).mono ?_); rintro e w503 ⟨rfl, hb⟩; refine ⟨_, rfl, ?_⟩; replace BK393 := bk_ BK393 hb; replace BK394 := bk_ BK394 hb; replace BK439 := bk_ BK439 hb; replace BK445 := bk_ BK445 hb; replace BK451 := bk_ BK451 hb; replace HB := Aside0.mk (below_step Z99 hb); clear hb) | ((with_reducible refine gate_dst (N := 36) rfl ?_); refine boxN_ 36 #[.int .i64 0, .int .i64 0, .int .i64 0, .int .i64 0] 25 ?_; intro gb457 hg w504 hbox hb; have BK457 := Aside0.mk hbox; have GW457 := gw_ (w := w) Z99 hg; have GE457 := gw_ (w := w) Z99 hg; replace HB := Aside0.mk (below_step Z99 hb); have NB393_457 := nl_ BK393 hg; have NB457_393 := ng_ BK393 hg; replace BK393 := bk_ BK393 hb; have NB394_457 := nl_ BK394 hg; have NB457_394 := ng_ BK394 hg; replace BK394 := bk_ BK394 hb; have NB439_457 := nl_ BK439 hg; have NB457_439 := ng_ BK439 hg; replace BK439 := bk_ BK439 hb; have NB445_457 := nl_ BK445 hg; have NB457_445 := ng_ BK445 hg; replace BK445 := bk_ BK445 hb; have NB451_457 := nl_ BK451 hg; have NB457_451 := ng_ BK451 hg; replace BK451 := bk_ BK451 hb; clear hb hbox hg; have hnb505 := NB457_393.out; have hnc505 := NB393_457.out; have hnb506 := NB457_394.out; have hnc506 := NB394_457.out; have hnb507 := NB457_439.out; have hnc507 := NB439_457.out; have hnb508 := NB457_445.out; have hnc508 := NB445_457.out; have hnb509 := NB457_451.out; have hnc509 := NB451_457.out; obtain ⟨_, _, _, _, _, _, _, _⟩ := cz4_ BK457))
            (try simp only [Act.put, sA_, sB_, sC_])
            go_cut [244] from 220 to 245 (fun v244 wc => ∃ (kq : Nat) (x244_496 : Bool), v244 = .bool x244_496 ∧ Aside0 (laws_FnCirclesTouch.j3 kq l1 t437 t438 x244_496 t385 t386 t387 t388 t433 t434 t435 t436 t440 t441 t442 t443 = some true) ∧ Aside0 (kq ≤ kj462) ∧ Aside0 (wc.heap[gb393]? = some (.cells #[.int .i64 t385, .int .i64 t386, .int .i64 t387, .int .i64 t388] 25 (0, 0))) ∧ Aside0 (wc.heap[gb394]? = some (.cells #[.int .i64 t389, .int .i64 t390, .int .i64 t391, .int .i64 t392] 25 (0, 0))) ∧ Aside0 (wc.heap[gb439]? = some (.cells #[.int .i64 t433, .int .i64 t434, .int .i64 t435, .int .i64 t436] 25 (0, 0))) ∧ Aside0 (wc.heap[gb445]? = some (.cells #[.int .i64 t440, .int .i64 t441, .int .i64 t442, .int .i64 t443] 25 (0, 0))) ∧ Aside0 (wc.heap[gb451]? = some (.cells #[.int .i64 t446, .int .i64 t447, .int .i64 t448, .int .i64 t449] 25 (0, 0))) ∧ Aside0 (wc.heap[gb457]? = some (.cells #[.int .i64 t452, .int .i64 t453, .int .i64 t454, .int .i64 t455] 25 (0, 0))) ∧ Aside0 (Below w.heap.size w wc))
            case first => as_aux_lemma =>
             have H := HC497.out
             clear HC497
             replace H := Option.bind_eq_some_iff.mp H
             obtain ⟨t458, A5110, H⟩ := H
             replace H : (if t458 = true then (if t456 = true then (laws_FnCirclesTouch.j3 kj462 l1 t437 t438 (!(t452 == t433) || (!(t453 == t434) || (!(t454 == t435) || (!(t455 == t436))))) t385 t386 t387 t388 t433 t434 t435 t436 t440 t441 t442 t443) else (laws_FnCirclesTouch.j3 kj462 l1 t437 t438 true t385 t386 t387 t388 t433 t434 t435 t436 t440 t441 t442 t443)) else (laws_FnCirclesTouch.j3 kj462 l1 t437 t438 true t385 t386 t387 t388 t433 t434 t435 t436 t440 t441 t442 t443)) = some true := H
             have A511 := Aside0.mk A5110
             clear A5110
             by_cases c512 : t458 = true
             ·
              subst c512
              have H1 : (if t456 = true then (laws_FnCirclesTouch.j3 kj462 l1 t437 t438 (!(t452 == t433) || (!(t453 == t434) || (!(t454 == t435) || (!(t455 == t436))))) t385 t386 t387 t388 t433 t434 t435 t436 t440 t441 t442 t443) else (laws_FnCirclesTouch.j3 kj462 l1 t437 t438 true t385 t386 t387 t388 t433 t434 t435 t436 t440 t441 t442 t443)) = some true := by rw [if_pos rfl] at H; exact H
              clear H
              have H := H1
              clear H1
              by_cases c513 : t456 = true
              · as_aux_lemma =>
               subst c513
               have H1 : (laws_FnCirclesTouch.j3 kj462 l1 t437 t438 (!(t452 == t433) || (!(t453 == t434) || (!(t454 == t435) || (!(t455 == t436))))) t385 t386 t387 t388 t433 t434 t435 t436 t440 t441 t442 t443) = some true := by rw [if_pos rfl] at H; exact H
               clear H
               have H := H1
               clear H1
               have H' := Aside0.mk H
               clear H
               have hnb514 := NB445_393.out
               have hnc514 := NB393_445.out
               have hnb515 := NB445_394.out
               have hnc515 := NB394_445.out
               have hnb516 := NB445_439.out
               have hnc516 := NB439_445.out
               have hnb517 := NB445_451.out
               have hnc517 := NB451_445.out
               have hnb518 := NB445_457.out
               have hnc518 := NB457_445.out
               have hcz519_0 : w504.cell? ⟨gb445, 0, none⟩ = some (.int .i64 t440) := (blk_cell BK445.out 0).trans rfl
               have hcz519_1 : w504.cell? ⟨gb445, 1, none⟩ = some (.int .i64 t441) := (blk_cell BK445.out 1).trans rfl
               have hcz519_2 : w504.cell? ⟨gb445, 2, none⟩ = some (.int .i64 t442) := (blk_cell BK445.out 2).trans rfl
               have hcz519_3 : w504.cell? ⟨gb445, 3, none⟩ = some (.int .i64 t443) := (blk_cell BK445.out 3).trans rfl
               have hfz519_0 := blk_frozen BK445.out 0
               have hfz519_1 := blk_frozen BK445.out 1
               have hfz519_2 := blk_frozen BK445.out 2
               have hfz519_3 := blk_frozen BK445.out 3
               go_wp2_with (first | ((with_reducible refine gate_callee (f := 15) rfl ?_); refine goesN_ 15 (some 234) Try.func15 #[.agg #[.int .i64 t440, .int .i64 t441, .int .i64 t442, .int .i64 t443]] ?_; (with_reducible refine (impl_IsCircle.calls t440 t441 t442 t443 true _ A511.out).mono ?_); rintro e w520 ⟨rfl, hb⟩; refine ⟨_, rfl, ?_⟩; replace BK393 := Aside0.mk (blk_below (g := gb393) (o := .cells #[.int .i64 t385, .int .i64 t386, .int .i64 t387, .int .i64 t388] 25 (0, 0)) Z48 hb); replace BK394 := Aside0.mk (blk_below (g := gb394) (o := .cells #[.int .i64 t389, .int .i64 t390, .int .i64 t391, .int .i64 t392] 25 (0, 0)) Z50 hb); replace BK439 := Aside0.mk (blk_below (g := gb439) (o := .cells #[.int .i64 t433, .int .i64 t434, .int .i64 t435, .int .i64 t436] 25 (0, 0)) Z52 hb); replace BK445 := Aside0.mk (blk_below (g := gb445) (o := .cells #[.int .i64 t440, .int .i64 t441, .int .i64 t442, .int .i64 t443] 25 (0, 0)) Z54 hb); replace BK451 := Aside0.mk (blk_below (g := gb451) (o := .cells #[.int .i64 t446, .int .i64 t447, .int .i64 t448, .int .i64 t449] 25 (0, 0)) Z56 hb); replace BK457 := Aside0.mk (blk_below (g := gb457) (o := .cells #[.int .i64 t452, .int .i64 t453, .int .i64 t454, .int .i64 t455] 25 (0, 0)) Z72 hb); replace HB := Aside0.mk (below_step Z105 hb); clear hb; have hnb521 := NB457_393.out; have hnc521 := NB393_457.out; have hnb522 := NB457_394.out; have hnc522 := NB394_457.out; have hnb523 := NB457_439.out; have hnc523 := NB439_457.out; have hnb524 := NB457_451.out; have hnc524 := NB451_457.out; obtain ⟨_, _, _, _, _, _, _, _⟩ := cz4_ BK457; have hnb526 := NB439_393.out; have hnc526 := NB393_439.out; have hnb527 := NB439_394.out; have hnc527 := NB394_439.out; have hnb528 := NB439_451.out; have hnc528 := NB451_439.out; obtain ⟨_, _, _, _, _, _, _, _⟩ := cz4_ BK439))
               all_goals (go_meet; case rel => exact ⟨_, ((!(t452 == t433) || (!(t453 == t434) || (!(t454 == t435) || (!(t455 == t436)))))), Z91, H', ⟨Z15⟩, ⟨Z88⟩, ⟨Z89⟩, ⟨Z35⟩, ⟨Z36⟩, ⟨Z37⟩, ⟨Z6⟩, ⟨Z105⟩⟩)
              · as_aux_lemma =>
               replace c513 := Bool.eq_false_iff.mpr c513
               subst c513
               have H1 : (laws_FnCirclesTouch.j3 kj462 l1 t437 t438 true t385 t386 t387 t388 t433 t434 t435 t436 t440 t441 t442 t443) = some true := by rw [if_neg (show ¬ (false = true) by decide)] at H; exact H
               clear H
               have H := H1
               clear H1
               have H' := Aside0.mk H
               clear H
               have hnb530 := NB445_393.out
               have hnc530 := NB393_445.out
               have hnb531 := NB445_394.out
               have hnc531 := NB394_445.out
               have hnb532 := NB445_439.out
               have hnc532 := NB439_445.out
               have hnb533 := NB445_451.out
               have hnc533 := NB451_445.out
               have hnb534 := NB445_457.out
               have hnc534 := NB457_445.out
               have hcz535_0 : w504.cell? ⟨gb445, 0, none⟩ = some (.int .i64 t440) := (blk_cell BK445.out 0).trans rfl
               have hcz535_1 : w504.cell? ⟨gb445, 1, none⟩ = some (.int .i64 t441) := (blk_cell BK445.out 1).trans rfl
               have hcz535_2 : w504.cell? ⟨gb445, 2, none⟩ = some (.int .i64 t442) := (blk_cell BK445.out 2).trans rfl
               have hcz535_3 : w504.cell? ⟨gb445, 3, none⟩ = some (.int .i64 t443) := (blk_cell BK445.out 3).trans rfl
               have hfz535_0 := blk_frozen BK445.out 0
               have hfz535_1 := blk_frozen BK445.out 1
               have hfz535_2 := blk_frozen BK445.out 2
               have hfz535_3 := blk_frozen BK445.out 3
               go_wp2_with (first | ((with_reducible refine gate_callee (f := 15) rfl ?_); refine goesN_ 15 (some 234) Try.func15 #[.agg #[.int .i64 t440, .int .i64 t441, .int .i64 t442, .int .i64 t443]] ?_; (with_reducible refine (impl_IsCircle.calls t440 t441 t442 t443 true _ A511.out).mono ?_); rintro e w536 ⟨rfl, hb⟩; refine ⟨_, rfl, ?_⟩; replace BK393 := Aside0.mk (blk_below (g := gb393) (o := .cells #[.int .i64 t385, .int .i64 t386, .int .i64 t387, .int .i64 t388] 25 (0, 0)) Z48 hb); replace BK394 := Aside0.mk (blk_below (g := gb394) (o := .cells #[.int .i64 t389, .int .i64 t390, .int .i64 t391, .int .i64 t392] 25 (0, 0)) Z50 hb); replace BK439 := Aside0.mk (blk_below (g := gb439) (o := .cells #[.int .i64 t433, .int .i64 t434, .int .i64 t435, .int .i64 t436] 25 (0, 0)) Z52 hb); replace BK445 := Aside0.mk (blk_below (g := gb445) (o := .cells #[.int .i64 t440, .int .i64 t441, .int .i64 t442, .int .i64 t443] 25 (0, 0)) Z54 hb); replace BK451 := Aside0.mk (blk_below (g := gb451) (o := .cells #[.int .i64 t446, .int .i64 t447, .int .i64 t448, .int .i64 t449] 25 (0, 0)) Z56 hb); replace BK457 := Aside0.mk (blk_below (g := gb457) (o := .cells #[.int .i64 t452, .int .i64 t453, .int .i64 t454, .int .i64 t455] 25 (0, 0)) Z72 hb); replace HB := Aside0.mk (below_step Z105 hb); clear hb))
               go_meet
               case rel => exact ⟨_, (true), Z91, H', ⟨Z15⟩, ⟨Z88⟩, ⟨Z89⟩, ⟨Z35⟩, ⟨Z36⟩, ⟨Z37⟩, ⟨Z6⟩, ⟨Z105⟩⟩
             · as_aux_lemma =>
              replace c512 := Bool.eq_false_iff.mpr c512
              subst c512
              have H1 : (laws_FnCirclesTouch.j3 kj462 l1 t437 t438 true t385 t386 t387 t388 t433 t434 t435 t436 t440 t441 t442 t443) = some true := by rw [if_neg (show ¬ (false = true) by decide)] at H; exact H
              clear H
              have H := H1
              clear H1
              have H' := Aside0.mk H
              clear H
              have hnb537 := NB445_393.out
              have hnc537 := NB393_445.out
              have hnb538 := NB445_394.out
              have hnc538 := NB394_445.out
              have hnb539 := NB445_439.out
              have hnc539 := NB439_445.out
              have hnb540 := NB445_451.out
              have hnc540 := NB451_445.out
              have hnb541 := NB445_457.out
              have hnc541 := NB457_445.out
              have hcz542_0 : w504.cell? ⟨gb445, 0, none⟩ = some (.int .i64 t440) := (blk_cell BK445.out 0).trans rfl
              have hcz542_1 : w504.cell? ⟨gb445, 1, none⟩ = some (.int .i64 t441) := (blk_cell BK445.out 1).trans rfl
              have hcz542_2 : w504.cell? ⟨gb445, 2, none⟩ = some (.int .i64 t442) := (blk_cell BK445.out 2).trans rfl
              have hcz542_3 : w504.cell? ⟨gb445, 3, none⟩ = some (.int .i64 t443) := (blk_cell BK445.out 3).trans rfl
              have hfz542_0 := blk_frozen BK445.out 0
              have hfz542_1 := blk_frozen BK445.out 1
              have hfz542_2 := blk_frozen BK445.out 2
              have hfz542_3 := blk_frozen BK445.out 3
              go_wp2_with (first | ((with_reducible refine gate_callee (f := 15) rfl ?_); refine goesN_ 15 (some 234) Try.func15 #[.agg #[.int .i64 t440, .int .i64 t441, .int .i64 t442, .int .i64 t443]] ?_; (with_reducible refine (impl_IsCircle.calls t440 t441 t442 t443 false _ A511.out).mono ?_); rintro e w543 ⟨rfl, hb⟩; refine ⟨_, rfl, ?_⟩; replace BK393 := Aside0.mk (blk_below (g := gb393) (o := .cells #[.int .i64 t385, .int .i64 t386, .int .i64 t387, .int .i64 t388] 25 (0, 0)) Z48 hb); replace BK394 := Aside0.mk (blk_below (g := gb394) (o := .cells #[.int .i64 t389, .int .i64 t390, .int .i64 t391, .int .i64 t392] 25 (0, 0)) Z50 hb); replace BK439 := Aside0.mk (blk_below (g := gb439) (o := .cells #[.int .i64 t433, .int .i64 t434, .int .i64 t435, .int .i64 t436] 25 (0, 0)) Z52 hb); replace BK445 := Aside0.mk (blk_below (g := gb445) (o := .cells #[.int .i64 t440, .int .i64 t441, .int .i64 t442, .int .i64 t443] 25 (0, 0)) Z54 hb); replace BK451 := Aside0.mk (blk_below (g := gb451) (o := .cells #[.int .i64 t446, .int .i64 t447, .int .i64 t448, .int .i64 t449] 25 (0, 0)) Z56 hb); replace BK457 := Aside0.mk (blk_below (g := gb457) (o := .cells #[.int .i64 t452, .int .i64 t453, .int .i64 t454, .int .i64 t455] 25 (0, 0)) Z72 hb); replace HB := Aside0.mk (below_step Z105 hb); clear hb))
              go_meet
              case rel => exact ⟨_, (true), Z91, H', ⟨Z15⟩, ⟨Z88⟩, ⟨Z89⟩, ⟨Z35⟩, ⟨Z36⟩, ⟨Z37⟩, ⟨Z6⟩, ⟨Z105⟩⟩
            case rest =>
             clear HC497
             obtain ⟨kq, x244_496, rfl, HA, HJ496, BK393, BK394, BK439, BK445, BK451, BK457, HB⟩ := hcut
             cases kq with
             | zero => exact absurd HA.out (by simp [laws_FnCirclesTouch.j3])
             | succ kj496 =>
              have H := HA.out
              clear HA
              simp only [laws_FnCirclesTouch.j3] at H
              by_cases c544 : x244_496 = true
              ·
               subst c544
               have H1 : (some false) = some true := by rw [if_pos rfl] at H; exact H
               clear H
               have H := H1
               clear H1
               exact absurd (Option.some.inj H) (by decide)
              ·
               replace c544 := Bool.eq_false_iff.mpr c544
               subst c544
               have H1 : ((impl_ShiftCircle.f t385 t386 t387 t388 t437 t438).bind fun bt459 => ((impl_TwiceProduct.f t385 t386 t387 t388 t433 t434 t435 t436).bind fun bt465 => ((impl_TwiceProduct.f bt459.1 bt459.2.1 bt459.2.2.1 bt459.2.2.2.1 t440 t441 t442 t443).bind fun bt467 => (if bt459.2.2.2.2 = true then (if bt465.2 = true then (if bt467.2 = true then (if bt467.1 = bt465.1 then (laws_FnCirclesTouch.j4 kj496 l1) else (some false)) else (some false)) else (laws_FnCirclesTouch.j4 kj496 l1)) else (laws_FnCirclesTouch.j4 kj496 l1))))) = some true := by rw [if_neg (show ¬ (false = true) by decide)] at H; exact H
               clear H
               have H := H1
               clear H1
               replace H := Option.bind_eq_some_iff.mp H
               obtain ⟨⟨t459, t460, t461, t462, t463⟩, A5450, H⟩ := H
               replace H : ((impl_TwiceProduct.f t385 t386 t387 t388 t433 t434 t435 t436).bind fun bt465 => ((impl_TwiceProduct.f t459 t460 t461 t462 t440 t441 t442 t443).bind fun bt467 => (if t463 = true then (if bt465.2 = true then (if bt467.2 = true then (if bt467.1 = bt465.1 then (laws_FnCirclesTouch.j4 kj496 l1) else (some false)) else (some false)) else (laws_FnCirclesTouch.j4 kj496 l1)) else (laws_FnCirclesTouch.j4 kj496 l1)))) = some true := H
               have A545 := Aside0.mk A5450
               clear A5450
               replace H := Option.bind_eq_some_iff.mp H
               obtain ⟨⟨t465, t466⟩, A5460, H⟩ := H
               replace H : ((impl_TwiceProduct.f t459 t460 t461 t462 t440 t441 t442 t443).bind fun bt467 => (if t463 = true then (if t466 = true then (if bt467.2 = true then (if bt467.1 = t465 then (laws_FnCirclesTouch.j4 kj496 l1) else (some false)) else (some false)) else (laws_FnCirclesTouch.j4 kj496 l1)) else (laws_FnCirclesTouch.j4 kj496 l1))) = some true := H
               have A546 := Aside0.mk A5460
               clear A5460
               replace H := Option.bind_eq_some_iff.mp H
               obtain ⟨⟨t467, t468⟩, A5470, H⟩ := H
               replace H : (if t463 = true then (if t466 = true then (if t468 = true then (if t467 = t465 then (laws_FnCirclesTouch.j4 kj496 l1) else (some false)) else (some false)) else (laws_FnCirclesTouch.j4 kj496 l1)) else (laws_FnCirclesTouch.j4 kj496 l1)) = some true := H
               have A547 := Aside0.mk A5470
               clear A5470
               by_cases c548 : t463 = true
               ·
                subst c548
                have H1 : (if t466 = true then (if t468 = true then (if t467 = t465 then (laws_FnCirclesTouch.j4 kj496 l1) else (some false)) else (some false)) else (laws_FnCirclesTouch.j4 kj496 l1)) = some true := by rw [if_pos rfl] at H; exact H
                clear H
                have H := H1
                clear H1
                by_cases c549 : t466 = true
                ·
                 subst c549
                 have H1 : (if t468 = true then (if t467 = t465 then (laws_FnCirclesTouch.j4 kj496 l1) else (some false)) else (some false)) = some true := by rw [if_pos rfl] at H; exact H
                 clear H
                 have H := H1
                 clear H1
                 by_cases c550 : t468 = true
                 ·
                  subst c550
                  have H1 : (if t467 = t465 then (laws_FnCirclesTouch.j4 kj496 l1) else (some false)) = some true := by rw [if_pos rfl] at H; exact H
                  clear H
                  have H := H1
                  clear H1
                  by_cases c551 : t467 = t465
                  · as_aux_lemma =>
                   rw [if_pos c551] at H
                   have c551b0 : (t467 == t465) = true := beq_iff_eq.mpr c551
                   have c551b1 : (t467 != t465) = false := bne_eq_false_iff_eq.mpr c551
                   clear c551
                   have H' := Aside0.mk H
                   clear H
                   have hnb552 := NB393_394.out
                   have hnc552 := NB394_393.out
                   have hnb553 := NB393_439.out
                   have hnc553 := NB439_393.out
                   have hnb554 := NB393_445.out
                   have hnc554 := NB445_393.out
                   have hnb555 := NB393_451.out
                   have hnc555 := NB451_393.out
                   have hnb556 := NB393_457.out
                   have hnc556 := NB457_393.out
                   have hcz557_0 : wc.cell? ⟨gb393, 0, none⟩ = some (.int .i64 t385) := (blk_cell BK393.out 0).trans rfl
                   have hcz557_1 : wc.cell? ⟨gb393, 1, none⟩ = some (.int .i64 t386) := (blk_cell BK393.out 1).trans rfl
                   have hcz557_2 : wc.cell? ⟨gb393, 2, none⟩ = some (.int .i64 t387) := (blk_cell BK393.out 2).trans rfl
                   have hcz557_3 : wc.cell? ⟨gb393, 3, none⟩ = some (.int .i64 t388) := (blk_cell BK393.out 3).trans rfl
                   have hfz557_0 := blk_frozen BK393.out 0
                   have hfz557_1 := blk_frozen BK393.out 1
                   have hfz557_2 := blk_frozen BK393.out 2
                   have hfz557_3 := blk_frozen BK393.out 3
                   go_wp2_with (first | ((with_reducible refine gate_callee (f := 13) rfl ?_); refine goesN_ 13 (some 249) Try.func13 #[.agg #[.int .i64 t385, .int .i64 t386, .int .i64 t387, .int .i64 t388], .int .i64 t437, .int .i64 t438] ?_; (with_reducible refine (impl_ShiftCircle.calls t385 t386 t387 t388 t437 t438 t459 t460 t461 t462 true _ A545.out).mono ?_); rintro e w558 ⟨rfl, hb⟩; refine ⟨_, rfl, ?_⟩; replace BK393 := bk_ BK393 hb; replace BK394 := bk_ BK394 hb; replace BK439 := bk_ BK439 hb; replace BK445 := bk_ BK445 hb; replace BK451 := bk_ BK451 hb; replace BK457 := bk_ BK457 hb; replace HB := Aside0.mk (below_step Z105 hb); clear hb) | ((with_reducible refine gate_dst (N := 38) rfl ?_); refine boxN_ 38 #[.int .i64 0, .int .i64 0, .int .i64 0, .int .i64 0] 25 ?_; intro gb464 hg w559 hbox hb; have BK464 := Aside0.mk hbox; have GW464 := gw_ (w := w) Z105 hg; have GE464 := gw_ (w := w) Z105 hg; replace HB := Aside0.mk (below_step Z105 hb); have NB393_464 := nl_ BK393 hg; have NB464_393 := ng_ BK393 hg; replace BK393 := bk_ BK393 hb; have NB394_464 := nl_ BK394 hg; have NB464_394 := ng_ BK394 hg; replace BK394 := bk_ BK394 hb; have NB439_464 := nl_ BK439 hg; have NB464_439 := ng_ BK439 hg; replace BK439 := bk_ BK439 hb; have NB445_464 := nl_ BK445 hg; have NB464_445 := ng_ BK445 hg; replace BK445 := bk_ BK445 hb; have NB451_464 := nl_ BK451 hg; have NB464_451 := ng_ BK451 hg; replace BK451 := bk_ BK451 hb; have NB457_464 := nl_ BK457 hg; have NB464_457 := ng_ BK457 hg; replace BK457 := bk_ BK457 hb; clear hb hbox hg; have hnb560 := NB464_393.out; have hnc560 := NB393_464.out; have hnb561 := NB464_394.out; have hnc561 := NB394_464.out; have hnb562 := NB464_439.out; have hnc562 := NB439_464.out; have hnb563 := NB464_445.out; have hnc563 := NB445_464.out; have hnb564 := NB464_451.out; have hnc564 := NB451_464.out; have hnb565 := NB464_457.out; have hnc565 := NB457_464.out; obtain ⟨_, _, _, _, _, _, _, _⟩ := cz4_ BK464; obtain ⟨_, _, _, _, _, _, _, _⟩ := cz4_ BK393; have hnb568 := NB439_394.out; have hnc568 := NB394_439.out; have hnb569 := NB439_445.out; have hnc569 := NB445_439.out; have hnb570 := NB439_451.out; have hnc570 := NB451_439.out; have hnb571 := NB439_457.out; have hnc571 := NB457_439.out; obtain ⟨_, _, _, _, _, _, _, _⟩ := cz4_ BK439) | ((with_reducible refine gate_callee (f := 6) rfl ?_); refine goesN_ 6 (some 255) Try.func6 #[.agg #[.int .i64 t385, .int .i64 t386, .int .i64 t387, .int .i64 t388], .agg #[.int .i64 t433, .int .i64 t434, .int .i64 t435, .int .i64 t436]] ?_; (with_reducible refine (impl_TwiceProduct.calls t385 t386 t387 t388 t433 t434 t435 t436 t465 true _ A546.out).mono ?_); rintro e w573 ⟨rfl, hb⟩; refine ⟨_, rfl, ?_⟩; replace BK393 := Aside0.mk (blk_below (g := gb393) (o := .cells #[.int .i64 t385, .int .i64 t386, .int .i64 t387, .int .i64 t388] 25 (0, 0)) Z49 hb); replace BK394 := Aside0.mk (blk_below (g := gb394) (o := .cells #[.int .i64 t389, .int .i64 t390, .int .i64 t391, .int .i64 t392] 25 (0, 0)) Z51 hb); replace BK439 := Aside0.mk (blk_below (g := gb439) (o := .cells #[.int .i64 t433, .int .i64 t434, .int .i64 t435, .int .i64 t436] 25 (0, 0)) Z53 hb); replace BK445 := Aside0.mk (blk_below (g := gb445) (o := .cells #[.int .i64 t440, .int .i64 t441, .int .i64 t442, .int .i64 t443] 25 (0, 0)) Z55 hb); replace BK451 := Aside0.mk (blk_below (g := gb451) (o := .cells #[.int .i64 t446, .int .i64 t447, .int .i64 t448, .int .i64 t449] 25 (0, 0)) Z57 hb); replace BK457 := Aside0.mk (blk_below (g := gb457) (o := .cells #[.int .i64 t452, .int .i64 t453, .int .i64 t454, .int .i64 t455] 25 (0, 0)) Z58 hb); replace BK464 := Aside0.mk (blk_below (g := gb464) (o := .cells #[.int .i64 t459, .int .i64 t460, .int .i64 t461, .int .i64 t462] 25 (0, 0)) Z73 hb); replace HB := Aside0.mk (below_step Z98 hb); clear hb; obtain ⟨_, _, _, _, _, _, _, _⟩ := cz4_ BK464; have hnb575 := NB445_394.out; have hnc575 := NB394_445.out; have hnb576 := NB445_451.out; have hnc576 := NB451_445.out; have hnb577 := NB445_457.out; have hnc577 := NB457_445.out; obtain ⟨_, _, _, _, _, _, _, _⟩ := cz4_ BK445) | ((with_reducible refine gate_callee (f := 6) rfl ?_); refine goesN_ 6 (some 261) Try.func6 #[.agg #[.int .i64 t459, .int .i64 t460, .int .i64 t461, .int .i64 t462], .agg #[.int .i64 t440, .int .i64 t441, .int .i64 t442, .int .i64 t443]] ?_; (with_reducible refine (impl_TwiceProduct.calls t459 t460 t461 t462 t440 t441 t442 t443 t467 true _ A547.out).mono ?_); rintro e w579 ⟨rfl, hb⟩; refine ⟨_, rfl, ?_⟩; replace BK393 := bk_ BK393 hb; replace BK394 := bk_ BK394 hb; replace BK439 := bk_ BK439 hb; replace BK445 := bk_ BK445 hb; replace BK451 := bk_ BK451 hb; replace BK457 := bk_ BK457 hb; replace BK464 := bk_ BK464 hb; replace HB := Aside0.mk (below_step Z98 hb); clear hb))
                   go_meet
                   case rel => exact ⟨_, H', ⟨Z4⟩, ⟨Z88⟩, ⟨Z89⟩, ⟨Z35⟩, ⟨Z36⟩, ⟨Z37⟩, ⟨Z98⟩⟩
                  ·
                   rw [if_neg c551] at H
                   have c551b0 : (t467 == t465) = false := beq_eq_false_iff_ne.mpr c551
                   have c551b1 : (t467 != t465) = true := bne_iff_ne.mpr c551
                   exact absurd (Option.some.inj H) (by decide)
                 ·
                  replace c550 := Bool.eq_false_iff.mpr c550
                  subst c550
                  have H1 : (some false) = some true := by rw [if_neg (show ¬ (false = true) by decide)] at H; exact H
                  clear H
                  have H := H1
                  clear H1
                  exact absurd (Option.some.inj H) (by decide)
                · as_aux_lemma =>
                 replace c549 := Bool.eq_false_iff.mpr c549
                 subst c549
                 have H1 : (laws_FnCirclesTouch.j4 kj496 l1) = some true := by rw [if_neg (show ¬ (false = true) by decide)] at H; exact H
                 clear H
                 have H := H1
                 clear H1
                 have H' := Aside0.mk H
                 clear H
                 have hnb636 := NB393_394.out
                 have hnc636 := NB394_393.out
                 have hnb637 := NB393_439.out
                 have hnc637 := NB439_393.out
                 have hnb638 := NB393_445.out
                 have hnc638 := NB445_393.out
                 have hnb639 := NB393_451.out
                 have hnc639 := NB451_393.out
                 have hnb640 := NB393_457.out
                 have hnc640 := NB457_393.out
                 have hcz641_0 : wc.cell? ⟨gb393, 0, none⟩ = some (.int .i64 t385) := (blk_cell BK393.out 0).trans rfl
                 have hcz641_1 : wc.cell? ⟨gb393, 1, none⟩ = some (.int .i64 t386) := (blk_cell BK393.out 1).trans rfl
                 have hcz641_2 : wc.cell? ⟨gb393, 2, none⟩ = some (.int .i64 t387) := (blk_cell BK393.out 2).trans rfl
                 have hcz641_3 : wc.cell? ⟨gb393, 3, none⟩ = some (.int .i64 t388) := (blk_cell BK393.out 3).trans rfl
                 have hfz641_0 := blk_frozen BK393.out 0
                 have hfz641_1 := blk_frozen BK393.out 1
                 have hfz641_2 := blk_frozen BK393.out 2
                 have hfz641_3 := blk_frozen BK393.out 3
                 go_wp2_with (first | ((with_reducible refine gate_callee (f := 13) rfl ?_); refine goesN_ 13 (some 249) Try.func13 #[.agg #[.int .i64 t385, .int .i64 t386, .int .i64 t387, .int .i64 t388], .int .i64 t437, .int .i64 t438] ?_; (with_reducible refine (impl_ShiftCircle.calls t385 t386 t387 t388 t437 t438 t459 t460 t461 t462 true _ A545.out).mono ?_); rintro e w642 ⟨rfl, hb⟩; refine ⟨_, rfl, ?_⟩; replace BK393 := bk_ BK393 hb; replace BK394 := bk_ BK394 hb; replace BK439 := bk_ BK439 hb; replace BK445 := bk_ BK445 hb; replace BK451 := bk_ BK451 hb; replace BK457 := bk_ BK457 hb; replace HB := Aside0.mk (below_step Z105 hb); clear hb) | ((with_reducible refine gate_dst (N := 38) rfl ?_); refine boxN_ 38 #[.int .i64 0, .int .i64 0, .int .i64 0, .int .i64 0] 25 ?_; intro gb464 hg w643 hbox hb; have BK464 := Aside0.mk hbox; have GW464 := gw_ (w := w) Z105 hg; have GE464 := gw_ (w := w) Z105 hg; replace HB := Aside0.mk (below_step Z105 hb); have NB393_464 := nl_ BK393 hg; have NB464_393 := ng_ BK393 hg; replace BK393 := bk_ BK393 hb; have NB394_464 := nl_ BK394 hg; have NB464_394 := ng_ BK394 hg; replace BK394 := bk_ BK394 hb; have NB439_464 := nl_ BK439 hg; have NB464_439 := ng_ BK439 hg; replace BK439 := bk_ BK439 hb; have NB445_464 := nl_ BK445 hg; have NB464_445 := ng_ BK445 hg; replace BK445 := bk_ BK445 hb; have NB451_464 := nl_ BK451 hg; have NB464_451 := ng_ BK451 hg; replace BK451 := bk_ BK451 hb; have NB457_464 := nl_ BK457 hg; have NB464_457 := ng_ BK457 hg; replace BK457 := bk_ BK457 hb; clear hb hbox hg; have hnb644 := NB464_393.out; have hnc644 := NB393_464.out; have hnb645 := NB464_394.out; have hnc645 := NB394_464.out; have hnb646 := NB464_439.out; have hnc646 := NB439_464.out; have hnb647 := NB464_445.out; have hnc647 := NB445_464.out; have hnb648 := NB464_451.out; have hnc648 := NB451_464.out; have hnb649 := NB464_457.out; have hnc649 := NB457_464.out; obtain ⟨_, _, _, _, _, _, _, _⟩ := cz4_ BK464; obtain ⟨_, _, _, _, _, _, _, _⟩ := cz4_ BK393; have hnb652 := NB439_394.out; have hnc652 := NB394_439.out; have hnb653 := NB439_445.out; have hnc653 := NB445_439.out; have hnb654 := NB439_451.out; have hnc654 := NB451_439.out; have hnb655 := NB439_457.out; have hnc655 := NB457_439.out; obtain ⟨_, _, _, _, _, _, _, _⟩ := cz4_ BK439) | ((with_reducible refine gate_callee (f := 6) rfl ?_); refine goesN_ 6 (some 255) Try.func6 #[.agg #[.int .i64 t385, .int .i64 t386, .int .i64 t387, .int .i64 t388], .agg #[.int .i64 t433, .int .i64 t434, .int .i64 t435, .int .i64 t436]] ?_; (with_reducible refine (impl_TwiceProduct.calls t385 t386 t387 t388 t433 t434 t435 t436 t465 false _ A546.out).mono ?_); rintro e w657 ⟨rfl, hb⟩; refine ⟨_, rfl, ?_⟩; replace BK393 := Aside0.mk (blk_below (g := gb393) (o := .cells #[.int .i64 t385, .int .i64 t386, .int .i64 t387, .int .i64 t388] 25 (0, 0)) Z49 hb); replace BK394 := Aside0.mk (blk_below (g := gb394) (o := .cells #[.int .i64 t389, .int .i64 t390, .int .i64 t391, .int .i64 t392] 25 (0, 0)) Z51 hb); replace BK439 := Aside0.mk (blk_below (g := gb439) (o := .cells #[.int .i64 t433, .int .i64 t434, .int .i64 t435, .int .i64 t436] 25 (0, 0)) Z53 hb); replace BK445 := Aside0.mk (blk_below (g := gb445) (o := .cells #[.int .i64 t440, .int .i64 t441, .int .i64 t442, .int .i64 t443] 25 (0, 0)) Z55 hb); replace BK451 := Aside0.mk (blk_below (g := gb451) (o := .cells #[.int .i64 t446, .int .i64 t447, .int .i64 t448, .int .i64 t449] 25 (0, 0)) Z57 hb); replace BK457 := Aside0.mk (blk_below (g := gb457) (o := .cells #[.int .i64 t452, .int .i64 t453, .int .i64 t454, .int .i64 t455] 25 (0, 0)) Z58 hb); replace BK464 := Aside0.mk (blk_below (g := gb464) (o := .cells #[.int .i64 t459, .int .i64 t460, .int .i64 t461, .int .i64 t462] 25 (0, 0)) Z73 hb); replace HB := Aside0.mk (below_step Z98 hb); clear hb; obtain ⟨_, _, _, _, _, _, _, _⟩ := cz4_ BK464; have hnb659 := NB445_394.out; have hnc659 := NB394_445.out; have hnb660 := NB445_451.out; have hnc660 := NB451_445.out; have hnb661 := NB445_457.out; have hnc661 := NB457_445.out; obtain ⟨_, _, _, _, _, _, _, _⟩ := cz4_ BK445) | ((with_reducible refine gate_callee (f := 6) rfl ?_); refine goesN_ 6 (some 261) Try.func6 #[.agg #[.int .i64 t459, .int .i64 t460, .int .i64 t461, .int .i64 t462], .agg #[.int .i64 t440, .int .i64 t441, .int .i64 t442, .int .i64 t443]] ?_; (with_reducible refine (impl_TwiceProduct.calls t459 t460 t461 t462 t440 t441 t442 t443 t467 t468 _ A547.out).mono ?_); rintro e w663 ⟨rfl, hb⟩; refine ⟨_, rfl, ?_⟩; replace BK393 := bk_ BK393 hb; replace BK394 := bk_ BK394 hb; replace BK439 := bk_ BK439 hb; replace BK445 := bk_ BK445 hb; replace BK451 := bk_ BK451 hb; replace BK457 := bk_ BK457 hb; replace BK464 := bk_ BK464 hb; replace HB := Aside0.mk (below_step Z98 hb); clear hb))
                 go_meet
                 case rel => exact ⟨_, H', ⟨Z4⟩, ⟨Z88⟩, ⟨Z89⟩, ⟨Z35⟩, ⟨Z36⟩, ⟨Z37⟩, ⟨Z98⟩⟩
               · as_aux_lemma =>
                replace c548 := Bool.eq_false_iff.mpr c548
                subst c548
                have H1 : (laws_FnCirclesTouch.j4 kj496 l1) = some true := by rw [if_neg (show ¬ (false = true) by decide)] at H; exact H
                clear H
                have H := H1
                clear H1
                have H' := Aside0.mk H
                clear H
                have hnb664 := NB393_394.out
                have hnc664 := NB394_393.out
                have hnb665 := NB393_439.out
                have hnc665 := NB439_393.out
                have hnb666 := NB393_445.out
                have hnc666 := NB445_393.out
                have hnb667 := NB393_451.out
                have hnc667 := NB451_393.out
                have hnb668 := NB393_457.out
                have hnc668 := NB457_393.out
                have hcz669_0 : wc.cell? ⟨gb393, 0, none⟩ = some (.int .i64 t385) := (blk_cell BK393.out 0).trans rfl
                have hcz669_1 : wc.cell? ⟨gb393, 1, none⟩ = some (.int .i64 t386) := (blk_cell BK393.out 1).trans rfl
                have hcz669_2 : wc.cell? ⟨gb393, 2, none⟩ = some (.int .i64 t387) := (blk_cell BK393.out 2).trans rfl
                have hcz669_3 : wc.cell? ⟨gb393, 3, none⟩ = some (.int .i64 t388) := (blk_cell BK393.out 3).trans rfl
                have hfz669_0 := blk_frozen BK393.out 0
                have hfz669_1 := blk_frozen BK393.out 1
                have hfz669_2 := blk_frozen BK393.out 2
                have hfz669_3 := blk_frozen BK393.out 3
                go_wp2_with (first | ((with_reducible refine gate_callee (f := 13) rfl ?_); refine goesN_ 13 (some 249) Try.func13 #[.agg #[.int .i64 t385, .int .i64 t386, .int .i64 t387, .int .i64 t388], .int .i64 t437, .int .i64 t438] ?_; (with_reducible refine (impl_ShiftCircle.calls t385 t386 t387 t388 t437 t438 t459 t460 t461 t462 false _ A545.out).mono ?_); rintro e w670 ⟨rfl, hb⟩; refine ⟨_, rfl, ?_⟩; replace BK393 := bk_ BK393 hb; replace BK394 := bk_ BK394 hb; replace BK439 := bk_ BK439 hb; replace BK445 := bk_ BK445 hb; replace BK451 := bk_ BK451 hb; replace BK457 := bk_ BK457 hb; replace HB := Aside0.mk (below_step Z105 hb); clear hb) | ((with_reducible refine gate_dst (N := 38) rfl ?_); refine boxN_ 38 #[.int .i64 0, .int .i64 0, .int .i64 0, .int .i64 0] 25 ?_; intro gb464 hg w671 hbox hb; have BK464 := Aside0.mk hbox; have GW464 := gw_ (w := w) Z105 hg; have GE464 := gw_ (w := w) Z105 hg; replace HB := Aside0.mk (below_step Z105 hb); have NB393_464 := nl_ BK393 hg; have NB464_393 := ng_ BK393 hg; replace BK393 := bk_ BK393 hb; have NB394_464 := nl_ BK394 hg; have NB464_394 := ng_ BK394 hg; replace BK394 := bk_ BK394 hb; have NB439_464 := nl_ BK439 hg; have NB464_439 := ng_ BK439 hg; replace BK439 := bk_ BK439 hb; have NB445_464 := nl_ BK445 hg; have NB464_445 := ng_ BK445 hg; replace BK445 := bk_ BK445 hb; have NB451_464 := nl_ BK451 hg; have NB464_451 := ng_ BK451 hg; replace BK451 := bk_ BK451 hb; have NB457_464 := nl_ BK457 hg; have NB464_457 := ng_ BK457 hg; replace BK457 := bk_ BK457 hb; clear hb hbox hg; have hnb672 := NB464_393.out; have hnc672 := NB393_464.out; have hnb673 := NB464_394.out; have hnc673 := NB394_464.out; have hnb674 := NB464_439.out; have hnc674 := NB439_464.out; have hnb675 := NB464_445.out; have hnc675 := NB445_464.out; have hnb676 := NB464_451.out; have hnc676 := NB451_464.out; have hnb677 := NB464_457.out; have hnc677 := NB457_464.out; obtain ⟨_, _, _, _, _, _, _, _⟩ := cz4_ BK464; obtain ⟨_, _, _, _, _, _, _, _⟩ := cz4_ BK393; have hnb680 := NB439_394.out; have hnc680 := NB394_439.out; have hnb681 := NB439_445.out; have hnc681 := NB445_439.out; have hnb682 := NB439_451.out; have hnc682 := NB451_439.out; have hnb683 := NB439_457.out; have hnc683 := NB457_439.out; obtain ⟨_, _, _, _, _, _, _, _⟩ := cz4_ BK439) | ((with_reducible refine gate_callee (f := 6) rfl ?_); refine goesN_ 6 (some 255) Try.func6 #[.agg #[.int .i64 t385, .int .i64 t386, .int .i64 t387, .int .i64 t388], .agg #[.int .i64 t433, .int .i64 t434, .int .i64 t435, .int .i64 t436]] ?_; (with_reducible refine (impl_TwiceProduct.calls t385 t386 t387 t388 t433 t434 t435 t436 t465 t466 _ A546.out).mono ?_); rintro e w685 ⟨rfl, hb⟩; refine ⟨_, rfl, ?_⟩; replace BK393 := Aside0.mk (blk_below (g := gb393) (o := .cells #[.int .i64 t385, .int .i64 t386, .int .i64 t387, .int .i64 t388] 25 (0, 0)) Z49 hb); replace BK394 := Aside0.mk (blk_below (g := gb394) (o := .cells #[.int .i64 t389, .int .i64 t390, .int .i64 t391, .int .i64 t392] 25 (0, 0)) Z51 hb); replace BK439 := Aside0.mk (blk_below (g := gb439) (o := .cells #[.int .i64 t433, .int .i64 t434, .int .i64 t435, .int .i64 t436] 25 (0, 0)) Z53 hb); replace BK445 := Aside0.mk (blk_below (g := gb445) (o := .cells #[.int .i64 t440, .int .i64 t441, .int .i64 t442, .int .i64 t443] 25 (0, 0)) Z55 hb); replace BK451 := Aside0.mk (blk_below (g := gb451) (o := .cells #[.int .i64 t446, .int .i64 t447, .int .i64 t448, .int .i64 t449] 25 (0, 0)) Z57 hb); replace BK457 := Aside0.mk (blk_below (g := gb457) (o := .cells #[.int .i64 t452, .int .i64 t453, .int .i64 t454, .int .i64 t455] 25 (0, 0)) Z58 hb); replace BK464 := Aside0.mk (blk_below (g := gb464) (o := .cells #[.int .i64 t459, .int .i64 t460, .int .i64 t461, .int .i64 t462] 25 (0, 0)) Z73 hb); replace HB := Aside0.mk (below_step Z98 hb); clear hb; obtain ⟨_, _, _, _, _, _, _, _⟩ := cz4_ BK464; have hnb687 := NB445_394.out; have hnc687 := NB394_445.out; have hnb688 := NB445_451.out; have hnc688 := NB451_445.out; have hnb689 := NB445_457.out; have hnc689 := NB457_445.out; obtain ⟨_, _, _, _, _, _, _, _⟩ := cz4_ BK445) | ((with_reducible refine gate_callee (f := 6) rfl ?_); refine goesN_ 6 (some 261) Try.func6 #[.agg #[.int .i64 t459, .int .i64 t460, .int .i64 t461, .int .i64 t462], .agg #[.int .i64 t440, .int .i64 t441, .int .i64 t442, .int .i64 t443]] ?_; (with_reducible refine (impl_TwiceProduct.calls t459 t460 t461 t462 t440 t441 t442 t443 t467 t468 _ A547.out).mono ?_); rintro e w691 ⟨rfl, hb⟩; refine ⟨_, rfl, ?_⟩; replace BK393 := bk_ BK393 hb; replace BK394 := bk_ BK394 hb; replace BK439 := bk_ BK439 hb; replace BK445 := bk_ BK445 hb; replace BK451 := bk_ BK451 hb; replace BK457 := bk_ BK457 hb; replace BK464 := bk_ BK464 hb; replace HB := Aside0.mk (below_step Z98 hb); clear hb))
                go_meet
                case rel => exact ⟨_, H', ⟨Z4⟩, ⟨Z88⟩, ⟨Z89⟩, ⟨Z35⟩, ⟨Z36⟩, ⟨Z37⟩, ⟨Z98⟩⟩
           · as_aux_lemma =>
            replace c495 := Bool.eq_false_iff.mpr c495
            subst c495
            have H1 : (laws_FnCirclesTouch.j4 kj462 l1) = some true := by rw [if_neg (show ¬ (false = true) by decide)] at H; exact H
            clear H
            have H := H1
            clear H1
            have H' := Aside0.mk H
            clear H
            go_wp2
            go_meet
            case rel => exact ⟨_, H', ⟨Z15⟩, ⟨Z88⟩, ⟨Z89⟩, ⟨Z35⟩, ⟨Z36⟩, ⟨Z37⟩, ⟨Z99⟩⟩
          case rest =>
           clear HC494
           obtain ⟨kq, HA, HJ493, BK393, BK394, BK439, BK445, BK451, HB⟩ := hcut
           cases kq with
           | zero => exact absurd HA.out (by simp [laws_FnCirclesTouch.j4])
           | succ kj493 =>
            have H := HA.out
            clear HA
            simp only [laws_FnCirclesTouch.j4] at H
            replace H := Option.bind_eq_some_iff.mp H
            obtain ⟨⟨t469, t470, t471, t472, t473, t474, t475, t476⟩, A6920, H⟩ := H
            replace H : ((impl_ReflectCircle.f t469 t470 t471 t472 t473 t474 t475 t476).bind fun bt479 => ((spec_ReflectCircle.f kj493 t469 t470 t471 t472 t473 t474 t475 t476).bind fun bt485 => (if (bt479.2.2.2.2 != bt485.2.2.2.2) = true then (laws_FnCirclesTouch.j5 kj493 bt479.2.2.2.2 true t469 t470 t471 t472 t473 t474 t475 t476 bt479.1 bt479.2.1 bt479.2.2.1 bt479.2.2.2.1) else (laws_FnCirclesTouch.j5 kj493 bt479.2.2.2.2 (!(bt479.1 == bt485.1) || (!(bt479.2.1 == bt485.2.1) || (!(bt479.2.2.1 == bt485.2.2.1) || (!(bt479.2.2.2.1 == bt485.2.2.2.1))))) t469 t470 t471 t472 t473 t474 t475 t476 bt479.1 bt479.2.1 bt479.2.2.1 bt479.2.2.2.1)))) = some true := H
            have A692 := Aside0.mk A6920
            clear A6920
            replace H := Option.bind_eq_some_iff.mp H
            obtain ⟨⟨t479, t480, t481, t482, t483⟩, A6930, H⟩ := H
            replace H : ((spec_ReflectCircle.f kj493 t469 t470 t471 t472 t473 t474 t475 t476).bind fun bt485 => (if (t483 != bt485.2.2.2.2) = true then (laws_FnCirclesTouch.j5 kj493 t483 true t469 t470 t471 t472 t473 t474 t475 t476 t479 t480 t481 t482) else (laws_FnCirclesTouch.j5 kj493 t483 (!(t479 == bt485.1) || (!(t480 == bt485.2.1) || (!(t481 == bt485.2.2.1) || (!(t482 == bt485.2.2.2.1))))) t469 t470 t471 t472 t473 t474 t475 t476 t479 t480 t481 t482))) = some true := H
            have A693 := Aside0.mk A6930
            clear A6930
            replace H := Option.bind_eq_some_iff.mp H
            obtain ⟨⟨t485, t486, t487, t488, t489⟩, A6940, H⟩ := H
            replace H : (if (t483 != t489) = true then (laws_FnCirclesTouch.j5 kj493 t483 true t469 t470 t471 t472 t473 t474 t475 t476 t479 t480 t481 t482) else (laws_FnCirclesTouch.j5 kj493 t483 (!(t479 == t485) || (!(t480 == t486) || (!(t481 == t487) || (!(t482 == t488))))) t469 t470 t471 t472 t473 t474 t475 t476 t479 t480 t481 t482)) = some true := H
            have A694 := Aside0.mk A6940
            clear A6940
            have HC695 := Aside0.mk H
            clear H
            go_upto_region 37 with (first | ((with_reducible refine gate_callee (f := 16) rfl ?_); refine goesN_ 16 (some 279) Try.func16 #[.slice A1 l1.length c1] ?_; (with_reducible refine (spec_DrawReflectCircle.calls kj493 _ _ l1 t469 t470 t471 t472 t473 t474 t475 t476 _ ?side1 ?side2 A692.out).mono ?_); (case side1 => repeat (first | exact (Kd.C_below HR1.out HB.out) | (with_reducible refine Kd.C_alloc ?_ _) | (with_reducible refine Kd.C_drewN ?_ _) | (with_reducible refine Kd.C_drew ?_))); (case side2 => exact HC1.out); rintro e w696 ⟨rfl, hb⟩; refine ⟨_, rfl, ?_⟩; replace BK393 := bk_ BK393 hb; replace BK394 := bk_ BK394 hb; replace BK439 := bk_ BK439 hb; replace BK445 := bk_ BK445 hb; replace BK451 := bk_ BK451 hb; replace HB := Aside0.mk (below_step Z99 hb); clear hb) | ((with_reducible refine gate_dst (N := 44) rfl ?_); refine boxN_ 44 #[.int .i64 0, .int .i64 0, .int .i64 0, .int .i64 0] 25 ?_; intro gb477 hg w697 hbox hb; have BK477 := Aside0.mk hbox; have GW477 := gw_ (w := w) Z99 hg; have GE477 := gw_ (w := w) Z99 hg; replace HB := Aside0.mk (below_step Z99 hb); have NB393_477 := nl_ BK393 hg; have NB477_393 := ng_ BK393 hg; replace BK393 := bk_ BK393 hb; have NB394_477 := nl_ BK394 hg; have NB477_394 := ng_ BK394 hg; replace BK394 := bk_ BK394 hb; have NB439_477 := nl_ BK439 hg; have NB477_439 := ng_ BK439 hg; replace BK439 := bk_ BK439 hb; have NB445_477 := nl_ BK445 hg; have NB477_445 := ng_ BK445 hg; replace BK445 := bk_ BK445 hb; have NB451_477 := nl_ BK451 hg; have NB477_451 := ng_ BK451 hg; replace BK451 := bk_ BK451 hb; clear hb hbox hg) | ((with_reducible refine gate_dst (N := 45) rfl ?_); refine boxN_ 45 #[.int .i64 0, .int .i64 0, .int .i64 0, .int .i64 0] 25 ?_; intro gb478 hg w698 hbox hb; have BK478 := Aside0.mk hbox; have GW478 := gw_ (w := w) Z23 hg; have GE478 := gw_ (w := w) Z23 hg; replace HB := Aside0.mk (below_step Z23 hb); have NB393_478 := nl_ BK393 hg; have NB478_393 := ng_ BK393 hg; replace BK393 := bk_ BK393 hb; have NB394_478 := nl_ BK394 hg; have NB478_394 := ng_ BK394 hg; replace BK394 := bk_ BK394 hb; have NB439_478 := nl_ BK439 hg; have NB478_439 := ng_ BK439 hg; replace BK439 := bk_ BK439 hb; have NB445_478 := nl_ BK445 hg; have NB478_445 := ng_ BK445 hg; replace BK445 := bk_ BK445 hb; have NB451_478 := nl_ BK451 hg; have NB478_451 := ng_ BK451 hg; replace BK451 := bk_ BK451 hb; have NB477_478 := nl_ BK477 hg; have NB478_477 := ng_ BK477 hg; replace BK477 := bk_ BK477 hb; clear hb hbox hg; have hnb699 := NB477_393.out; have hnc699 := NB393_477.out; have hnb700 := NB477_394.out; have hnc700 := NB394_477.out; have hnb701 := NB477_439.out; have hnc701 := NB439_477.out; have hnb702 := NB477_445.out; have hnc702 := NB445_477.out; have hnb703 := NB477_451.out; have hnc703 := NB451_477.out; have hnb704 := NB477_478.out; have hnc704 := NB478_477.out; obtain ⟨_, _, _, _, _, _, _, _⟩ := cz4_ BK477; have hnb706 := NB478_393.out; have hnc706 := NB393_478.out; have hnb707 := NB478_394.out; have hnc707 := NB394_478.out; have hnb708 := NB478_439.out; have hnc708 := NB439_478.out; have hnb709 := NB478_445.out; have hnc709 := NB445_478.out; have hnb710 := NB478_451.out; have hnc710 := NB451_478.out; obtain ⟨_, _, _, _, _, _, _, _⟩ := cz4_ BK478) | ((with_reducible refine gate_callee (f := 17) rfl ?_); refine goesN_ 17 (some 285) Try.func17 #[.agg #[.int .i64 t469, .int .i64 t470, .int .i64 t471, .int .i64 t472], .agg #[.int .i64 t473, .int .i64 t474, .int .i64 t475, .int .i64 t476]] ?_; (with_reducible refine (impl_ReflectCircle.calls t469 t470 t471 t472 t473 t474 t475 t476 t479 t480 t481 t482 t483 _ A693.out).mono ?_); rintro e w712 ⟨rfl, hb⟩; refine ⟨_, rfl, ?_⟩; replace BK393 := Aside0.mk (blk_below (g := gb393) (o := .cells #[.int .i64 t385, .int .i64 t386, .int .i64 t387, .int .i64 t388] 25 (0, 0)) (by (with_reducible repeat (first | refine blk_drewN ?_ _ | refine blk_drew ?_ | refine blk_alloc ?_ _)); refine blk_far ?_ NB393_478.out _; (with_reducible repeat (first | refine blk_drewN ?_ _ | refine blk_drew ?_ | refine blk_alloc ?_ _)); refine blk_far ?_ NB393_478.out _; (with_reducible repeat (first | refine blk_drewN ?_ _ | refine blk_drew ?_ | refine blk_alloc ?_ _)); refine blk_far ?_ NB393_478.out _; (with_reducible repeat (first | refine blk_drewN ?_ _ | refine blk_drew ?_ | refine blk_alloc ?_ _)); refine blk_far ?_ NB393_478.out _; (with_reducible repeat (first | refine blk_drewN ?_ _ | refine blk_drew ?_ | refine blk_alloc ?_ _)); refine blk_far ?_ NB393_477.out _; (with_reducible repeat (first | refine blk_drewN ?_ _ | refine blk_drew ?_ | refine blk_alloc ?_ _)); refine blk_far ?_ NB393_477.out _; (with_reducible repeat (first | refine blk_drewN ?_ _ | refine blk_drew ?_ | refine blk_alloc ?_ _)); refine blk_far ?_ NB393_477.out _; (with_reducible repeat (first | refine blk_drewN ?_ _ | refine blk_drew ?_ | refine blk_alloc ?_ _)); refine blk_far ?_ NB393_477.out _; (with_reducible repeat (first | refine blk_drewN ?_ _ | refine blk_drew ?_ | refine blk_alloc ?_ _)); exact BK393.out) hb); replace BK394 := Aside0.mk (blk_below (g := gb394) (o := .cells #[.int .i64 t389, .int .i64 t390, .int .i64 t391, .int .i64 t392] 25 (0, 0)) (by (with_reducible repeat (first | refine blk_drewN ?_ _ | refine blk_drew ?_ | refine blk_alloc ?_ _)); refine blk_far ?_ NB394_478.out _; (with_reducible repeat (first | refine blk_drewN ?_ _ | refine blk_drew ?_ | refine blk_alloc ?_ _)); refine blk_far ?_ NB394_478.out _; (with_reducible repeat (first | refine blk_drewN ?_ _ | refine blk_drew ?_ | refine blk_alloc ?_ _)); refine blk_far ?_ NB394_478.out _; (with_reducible repeat (first | refine blk_drewN ?_ _ | refine blk_drew ?_ | refine blk_alloc ?_ _)); refine blk_far ?_ NB394_478.out _; (with_reducible repeat (first | refine blk_drewN ?_ _ | refine blk_drew ?_ | refine blk_alloc ?_ _)); refine blk_far ?_ NB394_477.out _; (with_reducible repeat (first | refine blk_drewN ?_ _ | refine blk_drew ?_ | refine blk_alloc ?_ _)); refine blk_far ?_ NB394_477.out _; (with_reducible repeat (first | refine blk_drewN ?_ _ | refine blk_drew ?_ | refine blk_alloc ?_ _)); refine blk_far ?_ NB394_477.out _; (with_reducible repeat (first | refine blk_drewN ?_ _ | refine blk_drew ?_ | refine blk_alloc ?_ _)); refine blk_far ?_ NB394_477.out _; (with_reducible repeat (first | refine blk_drewN ?_ _ | refine blk_drew ?_ | refine blk_alloc ?_ _)); exact BK394.out) hb); replace BK439 := Aside0.mk (blk_below (g := gb439) (o := .cells #[.int .i64 t433, .int .i64 t434, .int .i64 t435, .int .i64 t436] 25 (0, 0)) (by (with_reducible repeat (first | refine blk_drewN ?_ _ | refine blk_drew ?_ | refine blk_alloc ?_ _)); refine blk_far ?_ NB439_478.out _; (with_reducible repeat (first | refine blk_drewN ?_ _ | refine blk_drew ?_ | refine blk_alloc ?_ _)); refine blk_far ?_ NB439_478.out _; (with_reducible repeat (first | refine blk_drewN ?_ _ | refine blk_drew ?_ | refine blk_alloc ?_ _)); refine blk_far ?_ NB439_478.out _; (with_reducible repeat (first | refine blk_drewN ?_ _ | refine blk_drew ?_ | refine blk_alloc ?_ _)); refine blk_far ?_ NB439_478.out _; (with_reducible repeat (first | refine blk_drewN ?_ _ | refine blk_drew ?_ | refine blk_alloc ?_ _)); refine blk_far ?_ NB439_477.out _; (with_reducible repeat (first | refine blk_drewN ?_ _ | refine blk_drew ?_ | refine blk_alloc ?_ _)); refine blk_far ?_ NB439_477.out _; (with_reducible repeat (first | refine blk_drewN ?_ _ | refine blk_drew ?_ | refine blk_alloc ?_ _)); refine blk_far ?_ NB439_477.out _; (with_reducible repeat (first | refine blk_drewN ?_ _ | refine blk_drew ?_ | refine blk_alloc ?_ _)); refine blk_far ?_ NB439_477.out _; (with_reducible repeat (first | refine blk_drewN ?_ _ | refine blk_drew ?_ | refine blk_alloc ?_ _)); exact BK439.out) hb); replace BK445 := Aside0.mk (blk_below (g := gb445) (o := .cells #[.int .i64 t440, .int .i64 t441, .int .i64 t442, .int .i64 t443] 25 (0, 0)) (by (with_reducible repeat (first | refine blk_drewN ?_ _ | refine blk_drew ?_ | refine blk_alloc ?_ _)); refine blk_far ?_ NB445_478.out _; (with_reducible repeat (first | refine blk_drewN ?_ _ | refine blk_drew ?_ | refine blk_alloc ?_ _)); refine blk_far ?_ NB445_478.out _; (with_reducible repeat (first | refine blk_drewN ?_ _ | refine blk_drew ?_ | refine blk_alloc ?_ _)); refine blk_far ?_ NB445_478.out _; (with_reducible repeat (first | refine blk_drewN ?_ _ | refine blk_drew ?_ | refine blk_alloc ?_ _)); refine blk_far ?_ NB445_478.out _; (with_reducible repeat (first | refine blk_drewN ?_ _ | refine blk_drew ?_ | refine blk_alloc ?_ _)); refine blk_far ?_ NB445_477.out _; (with_reducible repeat (first | refine blk_drewN ?_ _ | refine blk_drew ?_ | refine blk_alloc ?_ _)); refine blk_far ?_ NB445_477.out _; (with_reducible repeat (first | refine blk_drewN ?_ _ | refine blk_drew ?_ | refine blk_alloc ?_ _)); refine blk_far ?_ NB445_477.out _; (with_reducible repeat (first | refine blk_drewN ?_ _ | refine blk_drew ?_ | refine blk_alloc ?_ _)); refine blk_far ?_ NB445_477.out _; (with_reducible repeat (first | refine blk_drewN ?_ _ | refine blk_drew ?_ | refine blk_alloc ?_ _)); exact BK445.out) hb); replace BK451 := Aside0.mk (blk_below (g := gb451) (o := .cells #[.int .i64 t446, .int .i64 t447, .int .i64 t448, .int .i64 t449] 25 (0, 0)) (by (with_reducible repeat (first | refine blk_drewN ?_ _ | refine blk_drew ?_ | refine blk_alloc ?_ _)); refine blk_far ?_ NB451_478.out _; (with_reducible repeat (first | refine blk_drewN ?_ _ | refine blk_drew ?_ | refine blk_alloc ?_ _)); refine blk_far ?_ NB451_478.out _; (with_reducible repeat (first | refine blk_drewN ?_ _ | refine blk_drew ?_ | refine blk_alloc ?_ _)); refine blk_far ?_ NB451_478.out _; (with_reducible repeat (first | refine blk_drewN ?_ _ | refine blk_drew ?_ | refine blk_alloc ?_ _)); refine blk_far ?_ NB451_478.out _; (with_reducible repeat (first | refine blk_drewN ?_ _ | refine blk_drew ?_ | refine blk_alloc ?_ _)); refine blk_far ?_ NB451_477.out _; (with_reducible repeat (first | refine blk_drewN ?_ _ | refine blk_drew ?_ | refine blk_alloc ?_ _)); refine blk_far ?_ NB451_477.out _; (with_reducible repeat (first | refine blk_drewN ?_ _ | refine blk_drew ?_ | refine blk_alloc ?_ _)); refine blk_far ?_ NB451_477.out _; (with_reducible repeat (first | refine blk_drewN ?_ _ | refine blk_drew ?_ | refine blk_alloc ?_ _)); refine blk_far ?_ NB451_477.out _; (with_reducible repeat (first | refine blk_drewN ?_ _ | refine blk_drew ?_ | refine blk_alloc ?_ _)); exact BK451.out) hb); replace BK477 := Aside0.mk (blk_below (g := gb477) (o := .cells #[.int .i64 t469, .int .i64 t470, .int .i64 t471, .int .i64 t472] 25 (0, 0)) (by (with_reducible repeat (first | refine blk_drewN ?_ _ | refine blk_drew ?_ | refine blk_alloc ?_ _)); refine blk_far ?_ NB477_478.out _; (with_reducible repeat (first | refine blk_drewN ?_ _ | refine blk_drew ?_ | refine blk_alloc ?_ _)); refine blk_far ?_ NB477_478.out _; (with_reducible repeat (first | refine blk_drewN ?_ _ | refine blk_drew ?_ | refine blk_alloc ?_ _)); refine blk_far ?_ NB477_478.out _; (with_reducible repeat (first | refine blk_drewN ?_ _ | refine blk_drew ?_ | refine blk_alloc ?_ _)); refine blk_far ?_ NB477_478.out _; (with_reducible repeat (first | refine blk_drewN ?_ _ | refine blk_drew ?_ | refine blk_alloc ?_ _)); refine blk_put (cs := #[.int .i64 t469, .int .i64 t470, .int .i64 t471, .int .i64 0]) ?_ 3 _ rfl; (with_reducible repeat (first | refine blk_drewN ?_ _ | refine blk_drew ?_ | refine blk_alloc ?_ _)); refine blk_put (cs := #[.int .i64 t469, .int .i64 t470, .int .i64 0, .int .i64 0]) ?_ 2 _ rfl; (with_reducible repeat (first | refine blk_drewN ?_ _ | refine blk_drew ?_ | refine blk_alloc ?_ _)); refine blk_put (cs := #[.int .i64 t469, .int .i64 0, .int .i64 0, .int .i64 0]) ?_ 1 _ rfl; (with_reducible repeat (first | refine blk_drewN ?_ _ | refine blk_drew ?_ | refine blk_alloc ?_ _)); refine blk_put (cs := #[.int .i64 0, .int .i64 0, .int .i64 0, .int .i64 0]) ?_ 0 _ rfl; (with_reducible repeat (first | refine blk_drewN ?_ _ | refine blk_drew ?_ | refine blk_alloc ?_ _)); exact BK477.out) hb); replace BK478 := Aside0.mk (blk_below (g := gb478) (o := .cells #[.int .i64 t473, .int .i64 t474, .int .i64 t475, .int .i64 t476] 25 (0, 0)) (by (with_reducible repeat (first | refine blk_drewN ?_ _ | refine blk_drew ?_ | refine blk_alloc ?_ _)); refine blk_put (cs := #[.int .i64 t473, .int .i64 t474, .int .i64 t475, .int .i64 0]) ?_ 3 _ rfl; (with_reducible repeat (first | refine blk_drewN ?_ _ | refine blk_drew ?_ | refine blk_alloc ?_ _)); refine blk_put (cs := #[.int .i64 t473, .int .i64 t474, .int .i64 0, .int .i64 0]) ?_ 2 _ rfl; (with_reducible repeat (first | refine blk_drewN ?_ _ | refine blk_drew ?_ | refine blk_alloc ?_ _)); refine blk_put (cs := #[.int .i64 t473, .int .i64 0, .int .i64 0, .int .i64 0]) ?_ 1 _ rfl; (with_reducible repeat (first | refine blk_drewN ?_ _ | refine blk_drew ?_ | refine blk_alloc ?_ _)); refine blk_put (cs := #[.int .i64 0, .int .i64 0, .int .i64 0, .int .i64 0]) ?_ 0 _ rfl; (with_reducible repeat (first | refine blk_drewN ?_ _ | refine blk_drew ?_ | refine blk_alloc ?_ _)); refine blk_far ?_ NB478_477.out _; (with_reducible repeat (first | refine blk_drewN ?_ _ | refine blk_drew ?_ | refine blk_alloc ?_ _)); refine blk_far ?_ NB478_477.out _; (with_reducible repeat (first | refine blk_drewN ?_ _ | refine blk_drew ?_ | refine blk_alloc ?_ _)); refine blk_far ?_ NB478_477.out _; (with_reducible repeat (first | refine blk_drewN ?_ _ | refine blk_drew ?_ | refine blk_alloc ?_ _)); refine blk_far ?_ NB478_477.out _; (with_reducible repeat (first | refine blk_drewN ?_ _ | refine blk_drew ?_ | refine blk_alloc ?_ _)); exact BK478.out) hb); replace HB := Aside0.mk (below_step Z62 hb); clear hb) | ((with_reducible refine gate_dst (N := 46) rfl ?_); refine boxN_ 46 #[.int .i64 0, .int .i64 0, .int .i64 0, .int .i64 0] 25 ?_; intro gb484 hg w713 hbox hb; have BK484 := Aside0.mk hbox; have GW484 := gw_ (w := w) Z62 hg; have GE484 := gw_ (w := w) Z62 hg; replace HB := Aside0.mk (below_step Z62 hb); have NB393_484 := nl_ BK393 hg; have NB484_393 := ng_ BK393 hg; replace BK393 := bk_ BK393 hb; have NB394_484 := nl_ BK394 hg; have NB484_394 := ng_ BK394 hg; replace BK394 := bk_ BK394 hb; have NB439_484 := nl_ BK439 hg; have NB484_439 := ng_ BK439 hg; replace BK439 := bk_ BK439 hb; have NB445_484 := nl_ BK445 hg; have NB484_445 := ng_ BK445 hg; replace BK445 := bk_ BK445 hb; have NB451_484 := nl_ BK451 hg; have NB484_451 := ng_ BK451 hg; replace BK451 := bk_ BK451 hb; have NB477_484 := nl_ BK477 hg; have NB484_477 := ng_ BK477 hg; replace BK477 := bk_ BK477 hb; have NB478_484 := nl_ BK478 hg; have NB484_478 := ng_ BK478 hg; replace BK478 := bk_ BK478 hb; clear hb hbox hg; have hnb714 := NB484_393.out; have hnc714 := NB393_484.out; have hnb715 := NB484_394.out; have hnc715 := NB394_484.out; have hnb716 := NB484_439.out; have hnc716 := NB439_484.out; have hnb717 := NB484_445.out; have hnc717 := NB445_484.out; have hnb718 := NB484_451.out; have hnc718 := NB451_484.out; have hnb719 := NB484_477.out; have hnc719 := NB477_484.out; have hnb720 := NB484_478.out; have hnc720 := NB478_484.out; obtain ⟨_, _, _, _, _, _, _, _⟩ := cz4_ BK484; obtain ⟨_, _, _, _, _, _, _, _⟩ := cz4_ BK477; obtain ⟨_, _, _, _, _, _, _, _⟩ := cz4_ BK478) | ((with_reducible refine gate_callee (f := 18) rfl ?_); refine goesN_ 18 (some 291) Try.func18 #[.agg #[.int .i64 t469, .int .i64 t470, .int .i64 t471, .int .i64 t472], .agg #[.int .i64 t473, .int .i64 t474, .int .i64 t475, .int .i64 t476]] ?_; (with_reducible refine (spec_ReflectCircle.calls kj493 t469 t470 t471 t472 t473 t474 t475 t476 t485 t486 t487 t488 t489 _ A694.out).mono ?_); rintro e w724 ⟨rfl, hb⟩; refine ⟨_, rfl, ?_⟩; replace BK393 := Aside0.mk (blk_below (g := gb393) (o := .cells #[.int .i64 t385, .int .i64 t386, .int .i64 t387, .int .i64 t388] 25 (0, 0)) (by (with_reducible repeat (first | refine blk_drewN ?_ _ | refine blk_drew ?_ | refine blk_alloc ?_ _)); refine blk_far ?_ NB393_484.out _; (with_reducible repeat (first | refine blk_drewN ?_ _ | refine blk_drew ?_ | refine blk_alloc ?_ _)); refine blk_far ?_ NB393_484.out _; (with_reducible repeat (first | refine blk_drewN ?_ _ | refine blk_drew ?_ | refine blk_alloc ?_ _)); refine blk_far ?_ NB393_484.out _; (with_reducible repeat (first | refine blk_drewN ?_ _ | refine blk_drew ?_ | refine blk_alloc ?_ _)); refine blk_far ?_ NB393_484.out _; (with_reducible repeat (first | refine blk_drewN ?_ _ | refine blk_drew ?_ | refine blk_alloc ?_ _)); exact BK393.out) hb); replace BK394 := Aside0.mk (blk_below (g := gb394) (o := .cells #[.int .i64 t389, .int .i64 t390, .int .i64 t391, .int .i64 t392] 25 (0, 0)) (by (with_reducible repeat (first | refine blk_drewN ?_ _ | refine blk_drew ?_ | refine blk_alloc ?_ _)); refine blk_far ?_ NB394_484.out _; (with_reducible repeat (first | refine blk_drewN ?_ _ | refine blk_drew ?_ | refine blk_alloc ?_ _)); refine blk_far ?_ NB394_484.out _; (with_reducible repeat (first | refine blk_drewN ?_ _ | refine blk_drew ?_ | refine blk_alloc ?_ _)); refine blk_far ?_ NB394_484.out _; (with_reducible repeat (first | refine blk_drewN ?_ _ | refine blk_drew ?_ | refine blk_alloc ?_ _)); refine blk_far ?_ NB394_484.out _; (with_reducible repeat (first | refine blk_drewN ?_ _ | refine blk_drew ?_ | refine blk_alloc ?_ _)); exact BK394.out) hb); replace BK439 := Aside0.mk (blk_below (g := gb439) (o := .cells #[.int .i64 t433, .int .i64 t434, .int .i64 t435, .int .i64 t436] 25 (0, 0)) (by (with_reducible repeat (first | refine blk_drewN ?_ _ | refine blk_drew ?_ | refine blk_alloc ?_ _)); refine blk_far ?_ NB439_484.out _; (with_reducible repeat (first | refine blk_drewN ?_ _ | refine blk_drew ?_ | refine blk_alloc ?_ _)); refine blk_far ?_ NB439_484.out _; (with_reducible repeat (first | refine blk_drewN ?_ _ | refine blk_drew ?_ | refine blk_alloc ?_ _)); refine blk_far ?_ NB439_484.out _; (with_reducible repeat (first | refine blk_drewN ?_ _ | refine blk_drew ?_ | refine blk_alloc ?_ _)); refine blk_far ?_ NB439_484.out _; (with_reducible repeat (first | refine blk_drewN ?_ _ | refine blk_drew ?_ | refine blk_alloc ?_ _)); exact BK439.out) hb); replace BK445 := Aside0.mk (blk_below (g := gb445) (o := .cells #[.int .i64 t440, .int .i64 t441, .int .i64 t442, .int .i64 t443] 25 (0, 0)) (by (with_reducible repeat (first | refine blk_drewN ?_ _ | refine blk_drew ?_ | refine blk_alloc ?_ _)); refine blk_far ?_ NB445_484.out _; (with_reducible repeat (first | refine blk_drewN ?_ _ | refine blk_drew ?_ | refine blk_alloc ?_ _)); refine blk_far ?_ NB445_484.out _; (with_reducible repeat (first | refine blk_drewN ?_ _ | refine blk_drew ?_ | refine blk_alloc ?_ _)); refine blk_far ?_ NB445_484.out _; (with_reducible repeat (first | refine blk_drewN ?_ _ | refine blk_drew ?_ | refine blk_alloc ?_ _)); refine blk_far ?_ NB445_484.out _; (with_reducible repeat (first | refine blk_drewN ?_ _ | refine blk_drew ?_ | refine blk_alloc ?_ _)); exact BK445.out) hb); replace BK451 := Aside0.mk (blk_below (g := gb451) (o := .cells #[.int .i64 t446, .int .i64 t447, .int .i64 t448, .int .i64 t449] 25 (0, 0)) (by (with_reducible repeat (first | refine blk_drewN ?_ _ | refine blk_drew ?_ | refine blk_alloc ?_ _)); refine blk_far ?_ NB451_484.out _; (with_reducible repeat (first | refine blk_drewN ?_ _ | refine blk_drew ?_ | refine blk_alloc ?_ _)); refine blk_far ?_ NB451_484.out _; (with_reducible repeat (first | refine blk_drewN ?_ _ | refine blk_drew ?_ | refine blk_alloc ?_ _)); refine blk_far ?_ NB451_484.out _; (with_reducible repeat (first | refine blk_drewN ?_ _ | refine blk_drew ?_ | refine blk_alloc ?_ _)); refine blk_far ?_ NB451_484.out _; (with_reducible repeat (first | refine blk_drewN ?_ _ | refine blk_drew ?_ | refine blk_alloc ?_ _)); exact BK451.out) hb); replace BK477 := Aside0.mk (blk_below (g := gb477) (o := .cells #[.int .i64 t469, .int .i64 t470, .int .i64 t471, .int .i64 t472] 25 (0, 0)) (by (with_reducible repeat (first | refine blk_drewN ?_ _ | refine blk_drew ?_ | refine blk_alloc ?_ _)); refine blk_far ?_ NB477_484.out _; (with_reducible repeat (first | refine blk_drewN ?_ _ | refine blk_drew ?_ | refine blk_alloc ?_ _)); refine blk_far ?_ NB477_484.out _; (with_reducible repeat (first | refine blk_drewN ?_ _ | refine blk_drew ?_ | refine blk_alloc ?_ _)); refine blk_far ?_ NB477_484.out _; (with_reducible repeat (first | refine blk_drewN ?_ _ | refine blk_drew ?_ | refine blk_alloc ?_ _)); refine blk_far ?_ NB477_484.out _; (with_reducible repeat (first | refine blk_drewN ?_ _ | refine blk_drew ?_ | refine blk_alloc ?_ _)); exact BK477.out) hb); replace BK478 := Aside0.mk (blk_below (g := gb478) (o := .cells #[.int .i64 t473, .int .i64 t474, .int .i64 t475, .int .i64 t476] 25 (0, 0)) (by (with_reducible repeat (first | refine blk_drewN ?_ _ | refine blk_drew ?_ | refine blk_alloc ?_ _)); refine blk_far ?_ NB478_484.out _; (with_reducible repeat (first | refine blk_drewN ?_ _ | refine blk_drew ?_ | refine blk_alloc ?_ _)); refine blk_far ?_ NB478_484.out _; (with_reducible repeat (first | refine blk_drewN ?_ _ | refine blk_drew ?_ | refine blk_alloc ?_ _)); refine blk_far ?_ NB478_484.out _; (with_reducible repeat (first | refine blk_drewN ?_ _ | refine blk_drew ?_ | refine blk_alloc ?_ _)); refine blk_far ?_ NB478_484.out _; (with_reducible repeat (first | refine blk_drewN ?_ _ | refine blk_drew ?_ | refine blk_alloc ?_ _)); exact BK478.out) hb); replace BK484 := Aside0.mk (blk_below (g := gb484) (o := .cells #[.int .i64 t479, .int .i64 t480, .int .i64 t481, .int .i64 t482] 25 (0, 0)) (by (with_reducible repeat (first | refine blk_drewN ?_ _ | refine blk_drew ?_ | refine blk_alloc ?_ _)); refine blk_put (cs := #[.int .i64 t479, .int .i64 t480, .int .i64 t481, .int .i64 0]) ?_ 3 _ rfl; (with_reducible repeat (first | refine blk_drewN ?_ _ | refine blk_drew ?_ | refine blk_alloc ?_ _)); refine blk_put (cs := #[.int .i64 t479, .int .i64 t480, .int .i64 0, .int .i64 0]) ?_ 2 _ rfl; (with_reducible repeat (first | refine blk_drewN ?_ _ | refine blk_drew ?_ | refine blk_alloc ?_ _)); refine blk_put (cs := #[.int .i64 t479, .int .i64 0, .int .i64 0, .int .i64 0]) ?_ 1 _ rfl; (with_reducible repeat (first | refine blk_drewN ?_ _ | refine blk_drew ?_ | refine blk_alloc ?_ _)); refine blk_put (cs := #[.int .i64 0, .int .i64 0, .int .i64 0, .int .i64 0]) ?_ 0 _ rfl; (with_reducible repeat (first | refine blk_drewN ?_ _ | refine blk_drew ?_ | refine blk_alloc ?_ _)); exact BK484.out) hb); replace HB := Aside0.mk (below_step Z65 hb); clear hb) | ((with_reducible refine gate_dst (N := 48) rfl ?_); refine boxN_ 48 #[.int .i64 0, .int .i64 0, .int .i64 0, .int .i64 0] 25 ?_; intro gb490 hg w725 hbox hb; have BK490 := Aside0.mk hbox; have GW490 := gw_ (w := w) Z65 hg; have GE490 := gw_ (w := w) Z65 hg; replace HB := Aside0.mk (below_step Z65 hb); have NB393_490 := nl_ BK393 hg; have NB490_393 := ng_ BK393 hg; replace BK393 := bk_ BK393 hb; have NB394_490 := nl_ BK394 hg; have NB490_394 := ng_ BK394 hg; replace BK394 := bk_ BK394 hb; have NB439_490 := nl_ BK439 hg; have NB490_439 := ng_ BK439 hg; replace BK439 := bk_ BK439 hb; have NB445_490 := nl_ BK445 hg; have NB490_445 := ng_ BK445 hg; replace BK445 := bk_ BK445 hb; have NB451_490 := nl_ BK451 hg; have NB490_451 := ng_ BK451 hg; replace BK451 := bk_ BK451 hb; have NB477_490 := nl_ BK477 hg; have NB490_477 := ng_ BK477 hg; replace BK477 := bk_ BK477 hb; have NB478_490 := nl_ BK478 hg; have NB490_478 := ng_ BK478 hg; replace BK478 := bk_ BK478 hb; have NB484_490 := nl_ BK484 hg; have NB490_484 := ng_ BK484 hg; replace BK484 := bk_ BK484 hb; clear hb hbox hg; have hnb726 := NB490_393.out; have hnc726 := NB393_490.out; have hnb727 := NB490_394.out; have hnc727 := NB394_490.out; have hnb728 := NB490_439.out; have hnc728 := NB439_490.out; have hnb729 := NB490_445.out; have hnc729 := NB445_490.out; have hnb730 := NB490_451.out; have hnc730 := NB451_490.out; have hnb731 := NB490_477.out; have hnc731 := NB477_490.out; have hnb732 := NB490_478.out; have hnc732 := NB478_490.out; have hnb733 := NB490_484.out; have hnc733 := NB484_490.out; obtain ⟨_, _, _, _, _, _, _, _⟩ := cz4_ BK490))
            (try simp only [Act.put, sA_, sB_, sC_])
            go_cut [301] from 277 to 302 (fun v301 wc => ∃ (kq : Nat) (x301_694 : Bool), v301 = .bool x301_694 ∧ Aside0 (laws_FnCirclesTouch.j5 kq t483 x301_694 t469 t470 t471 t472 t473 t474 t475 t476 t479 t480 t481 t482 = some true) ∧ Aside0 (kq ≤ kj493) ∧ Aside0 (wc.heap[gb393]? = some (.cells #[.int .i64 t385, .int .i64 t386, .int .i64 t387, .int .i64 t388] 25 (0, 0))) ∧ Aside0 (wc.heap[gb394]? = some (.cells #[.int .i64 t389, .int .i64 t390, .int .i64 t391, .int .i64 t392] 25 (0, 0))) ∧ Aside0 (wc.heap[gb439]? = some (.cells #[.int .i64 t433, .int .i64 t434, .int .i64 t435, .int .i64 t436] 25 (0, 0))) ∧ Aside0 (wc.heap[gb445]? = some (.cells #[.int .i64 t440, .int .i64 t441, .int .i64 t442, .int .i64 t443] 25 (0, 0))) ∧ Aside0 (wc.heap[gb451]? = some (.cells #[.int .i64 t446, .int .i64 t447, .int .i64 t448, .int .i64 t449] 25 (0, 0))) ∧ Aside0 (wc.heap[gb477]? = some (.cells #[.int .i64 t469, .int .i64 t470, .int .i64 t471, .int .i64 t472] 25 (0, 0))) ∧ Aside0 (wc.heap[gb478]? = some (.cells #[.int .i64 t473, .int .i64 t474, .int .i64 t475, .int .i64 t476] 25 (0, 0))) ∧ Aside0 (wc.heap[gb484]? = some (.cells #[.int .i64 t479, .int .i64 t480, .int .i64 t481, .int .i64 t482] 25 (0, 0))) ∧ Aside0 (wc.heap[gb490]? = some (.cells #[.int .i64 t485, .int .i64 t486, .int .i64 t487, .int .i64 t488] 25 (0, 0))) ∧ Aside0 (Below w.heap.size w wc))
            case first => as_aux_lemma =>
             have H := HC695.out
             clear HC695
             by_cases c735 : (t483 != t489) = true
             · as_aux_lemma =>
              rw [if_pos c735] at H
              have c735b0 : (t483 != t489) = true := c735
              (try (have c735b1 : decide (t483 = t489) = false := by simpa using c735))
              (try (have c735b2 : (t483 == t489) = false := by simpa using c735))
              (try (have c735b3 : ¬ (t483 = t489) := by simpa using c735))
              clear c735
              (first | rw [c735b0] | (simp only [i64_w, i32_w]; rw [c735b0]) | rw [c735b1] | skip)
              have H' := Aside0.mk H
              clear H
              go_wp2
              go_meet
              case rel => exact ⟨_, (true), Z91, H', ⟨(by have := HJ9.out; have := HJ33.out; have := HJ462.out; have := HJ493.out; first | omega | exact Nat.le_refl _)⟩, ⟨(by (with_reducible repeat (first | refine blk_drewN ?_ _ | refine blk_drew ?_ | refine blk_alloc ?_ _)); refine blk_far ?_ NB393_490.out _; (with_reducible repeat (first | refine blk_drewN ?_ _ | refine blk_drew ?_ | refine blk_alloc ?_ _)); refine blk_far ?_ NB393_490.out _; (with_reducible repeat (first | refine blk_drewN ?_ _ | refine blk_drew ?_ | refine blk_alloc ?_ _)); refine blk_far ?_ NB393_490.out _; (with_reducible repeat (first | refine blk_drewN ?_ _ | refine blk_drew ?_ | refine blk_alloc ?_ _)); refine blk_far ?_ NB393_490.out _; (with_reducible repeat (first | refine blk_drewN ?_ _ | refine blk_drew ?_ | refine blk_alloc ?_ _)); exact BK393.out)⟩, ⟨(by (with_reducible repeat (first | refine blk_drewN ?_ _ | refine blk_drew ?_ | refine blk_alloc ?_ _)); refine blk_far ?_ NB394_490.out _; (with_reducible repeat (first | refine blk_drewN ?_ _ | refine blk_drew ?_ | refine blk_alloc ?_ _)); refine blk_far ?_ NB394_490.out _; (with_reducible repeat (first | refine blk_drewN ?_ _ | refine blk_drew ?_ | refine blk_alloc ?_ _)); refine blk_far ?_ NB394_490.out _; (with_reducible repeat (first | refine blk_drewN ?_ _ | refine blk_drew ?_ | refine blk_alloc ?_ _)); refine blk_far ?_ NB394_490.out _; (with_reducible repeat (first | refine blk_drewN ?_ _ | refine blk_drew ?_ | refine blk_alloc ?_ _)); exact BK394.out)⟩, ⟨(by (with_reducible repeat (first | refine blk_drewN ?_ _ | refine blk_drew ?_ | refine blk_alloc ?_ _)); refine blk_far ?_ NB439_490.out _; (with_reducible repeat (first | refine blk_drewN ?_ _ | refine blk_drew ?_ | refine blk_alloc ?_ _)); refine blk_far ?_ NB439_490.out _; (with_reducible repeat (first | refine blk_drewN ?_ _ | refine blk_drew ?_ | refine blk_alloc ?_ _)); refine blk_far ?_ NB439_490.out _; (with_reducible repeat (first | refine blk_drewN ?_ _ | refine blk_drew ?_ | refine blk_alloc ?_ _)); refine blk_far ?_ NB439_490.out _; (with_reducible repeat (first | refine blk_drewN ?_ _ | refine blk_drew ?_ | refine blk_alloc ?_ _)); exact BK439.out)⟩, ⟨(by (with_reducible repeat (first | refine blk_drewN ?_ _ | refine blk_drew ?_ | refine blk_alloc ?_ _)); refine blk_far ?_ NB445_490.out _; (with_reducible repeat (first | refine blk_drewN ?_ _ | refine blk_drew ?_ | refine blk_alloc ?_ _)); refine blk_far ?_ NB445_490.out _; (with_reducible repeat (first | refine blk_drewN ?_ _ | refine blk_drew ?_ | refine blk_alloc ?_ _)); refine blk_far ?_ NB445_490.out _; (with_reducible repeat (first | refine blk_drewN ?_ _ | refine blk_drew ?_ | refine blk_alloc ?_ _)); refine blk_far ?_ NB445_490.out _; (with_reducible repeat (first | refine blk_drewN ?_ _ | refine blk_drew ?_ | refine blk_alloc ?_ _)); exact BK445.out)⟩, ⟨(by (with_reducible repeat (first | refine blk_drewN ?_ _ | refine blk_drew ?_ | refine blk_alloc ?_ _)); refine blk_far ?_ NB451_490.out _; (with_reducible repeat (first | refine blk_drewN ?_ _ | refine blk_drew ?_ | refine blk_alloc ?_ _)); refine blk_far ?_ NB451_490.out _; (with_reducible repeat (first | refine blk_drewN ?_ _ | refine blk_drew ?_ | refine blk_alloc ?_ _)); refine blk_far ?_ NB451_490.out _; (with_reducible repeat (first | refine blk_drewN ?_ _ | refine blk_drew ?_ | refine blk_alloc ?_ _)); refine blk_far ?_ NB451_490.out _; (with_reducible repeat (first | refine blk_drewN ?_ _ | refine blk_drew ?_ | refine blk_alloc ?_ _)); exact BK451.out)⟩, ⟨(by (with_reducible repeat (first | refine blk_drewN ?_ _ | refine blk_drew ?_ | refine blk_alloc ?_ _)); refine blk_far ?_ NB477_490.out _; (with_reducible repeat (first | refine blk_drewN ?_ _ | refine blk_drew ?_ | refine blk_alloc ?_ _)); refine blk_far ?_ NB477_490.out _; (with_reducible repeat (first | refine blk_drewN ?_ _ | refine blk_drew ?_ | refine blk_alloc ?_ _)); refine blk_far ?_ NB477_490.out _; (with_reducible repeat (first | refine blk_drewN ?_ _ | refine blk_drew ?_ | refine blk_alloc ?_ _)); refine blk_far ?_ NB477_490.out _; (with_reducible repeat (first | refine blk_drewN ?_ _ | refine blk_drew ?_ | refine blk_alloc ?_ _)); exact BK477.out)⟩, ⟨(by (with_reducible repeat (first | refine blk_drewN ?_ _ | refine blk_drew ?_ | refine blk_alloc ?_ _)); refine blk_far ?_ NB478_490.out _; (with_reducible repeat (first | refine blk_drewN ?_ _ | refine blk_drew ?_ | refine blk_alloc ?_ _)); refine blk_far ?_ NB478_490.out _; (with_reducible repeat (first | refine blk_drewN ?_ _ | refine blk_drew ?_ | refine blk_alloc ?_ _)); refine blk_far ?_ NB478_490.out _; (with_reducible repeat (first | refine blk_drewN ?_ _ | refine blk_drew ?_ | refine blk_alloc ?_ _)); refine blk_far ?_ NB478_490.out _; (with_reducible repeat (first | refine blk_drewN ?_ _ | refine blk_drew ?_ | refine blk_alloc ?_ _)); exact BK478.out)⟩, ⟨(by (with_reducible repeat (first | refine blk_drewN ?_ _ | refine blk_drew ?_ | refine blk_alloc ?_ _)); refine blk_far ?_ NB484_490.out _; (with_reducible repeat (first | refine blk_drewN ?_ _ | refine blk_drew ?_ | refine blk_alloc ?_ _)); refine blk_far ?_ NB484_490.out _; (with_reducible repeat (first | refine blk_drewN ?_ _ | refine blk_drew ?_ | refine blk_alloc ?_ _)); refine blk_far ?_ NB484_490.out _; (with_reducible repeat (first | refine blk_drewN ?_ _ | refine blk_drew ?_ | refine blk_alloc ?_ _)); refine blk_far ?_ NB484_490.out _; (with_reducible repeat (first | refine blk_drewN ?_ _ | refine blk_drew ?_ | refine blk_alloc ?_ _)); exact BK484.out)⟩, ⟨(by (with_reducible repeat (first | refine blk_drewN ?_ _ | refine blk_drew ?_ | refine blk_alloc ?_ _)); refine blk_put (cs := #[.int .i64 t485, .int .i64 t486, .int .i64 t487, .int .i64 0]) ?_ 3 _ rfl; (with_reducible repeat (first | refine blk_drewN ?_ _ | refine blk_drew ?_ | refine blk_alloc ?_ _)); refine blk_put (cs := #[.int .i64 t485, .int .i64 t486, .int .i64 0, .int .i64 0]) ?_ 2 _ rfl; (with_reducible repeat (first | refine blk_drewN ?_ _ | refine blk_drew ?_ | refine blk_alloc ?_ _)); refine blk_put (cs := #[.int .i64 t485, .int .i64 0, .int .i64 0, .int .i64 0]) ?_ 1 _ rfl; (with_reducible repeat (first | refine blk_drewN ?_ _ | refine blk_drew ?_ | refine blk_alloc ?_ _)); refine blk_put (cs := #[.int .i64 0, .int .i64 0, .int .i64 0, .int .i64 0]) ?_ 0 _ rfl; (with_reducible repeat (first | refine blk_drewN ?_ _ | refine blk_drew ?_ | refine blk_alloc ?_ _)); exact BK490.out)⟩, ⟨Z95⟩⟩
             · as_aux_lemma =>
              rw [if_neg c735] at H
              have c735b0 : (t483 != t489) = false := by simpa using c735
              (try (have c735b1 : decide (t483 = t489) = true := by simpa using c735))
              (try (have c735b2 : (t483 == t489) = true := by simpa using c735))
              clear c735
              (first | rw [c735b0] | (simp only [i64_w, i32_w]; rw [c735b0]) | rw [c735b1] | skip)
              have H' := Aside0.mk H
              clear H
              have hnb736 := NB484_393.out
              have hnc736 := NB393_484.out
              have hnb737 := NB484_394.out
              have hnc737 := NB394_484.out
              have hnb738 := NB484_439.out
              have hnc738 := NB439_484.out
              have hnb739 := NB484_445.out
              have hnc739 := NB445_484.out
              have hnb740 := NB484_451.out
              have hnc740 := NB451_484.out
              have hnb741 := NB484_477.out
              have hnc741 := NB477_484.out
              have hnb742 := NB484_478.out
              have hnc742 := NB478_484.out
              have hnb743 := NB484_490.out
              have hnc743 := NB490_484.out
              have hcz744_0 : w725.cell? ⟨gb484, 0, none⟩ = some (.int .i64 t479) := (blk_cell BK484.out 0).trans rfl
              have hcz744_1 : w725.cell? ⟨gb484, 1, none⟩ = some (.int .i64 t480) := (blk_cell BK484.out 1).trans rfl
              have hcz744_2 : w725.cell? ⟨gb484, 2, none⟩ = some (.int .i64 t481) := (blk_cell BK484.out 2).trans rfl
              have hcz744_3 : w725.cell? ⟨gb484, 3, none⟩ = some (.int .i64 t482) := (blk_cell BK484.out 3).trans rfl
              have hfz744_0 := blk_frozen BK484.out 0
              have hfz744_1 := blk_frozen BK484.out 1
              have hfz744_2 := blk_frozen BK484.out 2
              have hfz744_3 := blk_frozen BK484.out 3
              have hnb745 := NB490_393.out
              have hnc745 := NB393_490.out
              have hnb746 := NB490_394.out
              have hnc746 := NB394_490.out
              have hnb747 := NB490_439.out
              have hnc747 := NB439_490.out
              have hnb748 := NB490_445.out
              have hnc748 := NB445_490.out
              have hnb749 := NB490_451.out
              have hnc749 := NB451_490.out
              have hnb750 := NB490_477.out
              have hnc750 := NB477_490.out
              have hnb751 := NB490_478.out
              have hnc751 := NB478_490.out
              have hcz752_0 : w725.cell? ⟨gb490, 0, none⟩ = some (.int .i64 0) := (blk_cell BK490.out 0).trans rfl
              have hcz752_1 : w725.cell? ⟨gb490, 1, none⟩ = some (.int .i64 0) := (blk_cell BK490.out 1).trans rfl
              have hcz752_2 : w725.cell? ⟨gb490, 2, none⟩ = some (.int .i64 0) := (blk_cell BK490.out 2).trans rfl
              have hcz752_3 : w725.cell? ⟨gb490, 3, none⟩ = some (.int .i64 0) := (blk_cell BK490.out 3).trans rfl
              have hfz752_0 := blk_frozen BK490.out 0
              have hfz752_1 := blk_frozen BK490.out 1
              have hfz752_2 := blk_frozen BK490.out 2
              have hfz752_3 := blk_frozen BK490.out 3
              go_wp2
              all_goals (go_meet; case rel => exact ⟨_, ((!(t479 == t485) || (!(t480 == t486) || (!(t481 == t487) || (!(t482 == t488)))))), Z91, H', ⟨(by have := HJ9.out; have := HJ33.out; have := HJ462.out; have := HJ493.out; first | omega | exact Nat.le_refl _)⟩, ⟨(by (with_reducible repeat (first | refine blk_drewN ?_ _ | refine blk_drew ?_ | refine blk_alloc ?_ _)); refine blk_far ?_ NB393_490.out _; (with_reducible repeat (first | refine blk_drewN ?_ _ | refine blk_drew ?_ | refine blk_alloc ?_ _)); refine blk_far ?_ NB393_490.out _; (with_reducible repeat (first | refine blk_drewN ?_ _ | refine blk_drew ?_ | refine blk_alloc ?_ _)); refine blk_far ?_ NB393_490.out _; (with_reducible repeat (first | refine blk_drewN ?_ _ | refine blk_drew ?_ | refine blk_alloc ?_ _)); refine blk_far ?_ NB393_490.out _; (with_reducible repeat (first | refine blk_drewN ?_ _ | refine blk_drew ?_ | refine blk_alloc ?_ _)); exact BK393.out)⟩, ⟨(by (with_reducible repeat (first | refine blk_drewN ?_ _ | refine blk_drew ?_ | refine blk_alloc ?_ _)); refine blk_far ?_ NB394_490.out _; (with_reducible repeat (first | refine blk_drewN ?_ _ | refine blk_drew ?_ | refine blk_alloc ?_ _)); refine blk_far ?_ NB394_490.out _; (with_reducible repeat (first | refine blk_drewN ?_ _ | refine blk_drew ?_ | refine blk_alloc ?_ _)); refine blk_far ?_ NB394_490.out _; (with_reducible repeat (first | refine blk_drewN ?_ _ | refine blk_drew ?_ | refine blk_alloc ?_ _)); refine blk_far ?_ NB394_490.out _; (with_reducible repeat (first | refine blk_drewN ?_ _ | refine blk_drew ?_ | refine blk_alloc ?_ _)); exact BK394.out)⟩, ⟨(by (with_reducible repeat (first | refine blk_drewN ?_ _ | refine blk_drew ?_ | refine blk_alloc ?_ _)); refine blk_far ?_ NB439_490.out _; (with_reducible repeat (first | refine blk_drewN ?_ _ | refine blk_drew ?_ | refine blk_alloc ?_ _)); refine blk_far ?_ NB439_490.out _; (with_reducible repeat (first | refine blk_drewN ?_ _ | refine blk_drew ?_ | refine blk_alloc ?_ _)); refine blk_far ?_ NB439_490.out _; (with_reducible repeat (first | refine blk_drewN ?_ _ | refine blk_drew ?_ | refine blk_alloc ?_ _)); refine blk_far ?_ NB439_490.out _; (with_reducible repeat (first | refine blk_drewN ?_ _ | refine blk_drew ?_ | refine blk_alloc ?_ _)); exact BK439.out)⟩, ⟨(by (with_reducible repeat (first | refine blk_drewN ?_ _ | refine blk_drew ?_ | refine blk_alloc ?_ _)); refine blk_far ?_ NB445_490.out _; (with_reducible repeat (first | refine blk_drewN ?_ _ | refine blk_drew ?_ | refine blk_alloc ?_ _)); refine blk_far ?_ NB445_490.out _; (with_reducible repeat (first | refine blk_drewN ?_ _ | refine blk_drew ?_ | refine blk_alloc ?_ _)); refine blk_far ?_ NB445_490.out _; (with_reducible repeat (first | refine blk_drewN ?_ _ | refine blk_drew ?_ | refine blk_alloc ?_ _)); refine blk_far ?_ NB445_490.out _; (with_reducible repeat (first | refine blk_drewN ?_ _ | refine blk_drew ?_ | refine blk_alloc ?_ _)); exact BK445.out)⟩, ⟨(by (with_reducible repeat (first | refine blk_drewN ?_ _ | refine blk_drew ?_ | refine blk_alloc ?_ _)); refine blk_far ?_ NB451_490.out _; (with_reducible repeat (first | refine blk_drewN ?_ _ | refine blk_drew ?_ | refine blk_alloc ?_ _)); refine blk_far ?_ NB451_490.out _; (with_reducible repeat (first | refine blk_drewN ?_ _ | refine blk_drew ?_ | refine blk_alloc ?_ _)); refine blk_far ?_ NB451_490.out _; (with_reducible repeat (first | refine blk_drewN ?_ _ | refine blk_drew ?_ | refine blk_alloc ?_ _)); refine blk_far ?_ NB451_490.out _; (with_reducible repeat (first | refine blk_drewN ?_ _ | refine blk_drew ?_ | refine blk_alloc ?_ _)); exact BK451.out)⟩, ⟨(by (with_reducible repeat (first | refine blk_drewN ?_ _ | refine blk_drew ?_ | refine blk_alloc ?_ _)); refine blk_far ?_ NB477_490.out _; (with_reducible repeat (first | refine blk_drewN ?_ _ | refine blk_drew ?_ | refine blk_alloc ?_ _)); refine blk_far ?_ NB477_490.out _; (with_reducible repeat (first | refine blk_drewN ?_ _ | refine blk_drew ?_ | refine blk_alloc ?_ _)); refine blk_far ?_ NB477_490.out _; (with_reducible repeat (first | refine blk_drewN ?_ _ | refine blk_drew ?_ | refine blk_alloc ?_ _)); refine blk_far ?_ NB477_490.out _; (with_reducible repeat (first | refine blk_drewN ?_ _ | refine blk_drew ?_ | refine blk_alloc ?_ _)); exact BK477.out)⟩, ⟨(by (with_reducible repeat (first | refine blk_drewN ?_ _ | refine blk_drew ?_ | refine blk_alloc ?_ _)); refine blk_far ?_ NB478_490.out _; (with_reducible repeat (first | refine blk_drewN ?_ _ | refine blk_drew ?_ | refine blk_alloc ?_ _)); refine blk_far ?_ NB478_490.out _; (with_reducible repeat (first | refine blk_drewN ?_ _ | refine blk_drew ?_ | refine blk_alloc ?_ _)); refine blk_far ?_ NB478_490.out _; (with_reducible repeat (first | refine blk_drewN ?_ _ | refine blk_drew ?_ | refine blk_alloc ?_ _)); refine blk_far ?_ NB478_490.out _; (with_reducible repeat (first | refine blk_drewN ?_ _ | refine blk_drew ?_ | refine blk_alloc ?_ _)); exact BK478.out)⟩, ⟨(by (with_reducible repeat (first | refine blk_drewN ?_ _ | refine blk_drew ?_ | refine blk_alloc ?_ _)); refine blk_far ?_ NB484_490.out _; (with_reducible repeat (first | refine blk_drewN ?_ _ | refine blk_drew ?_ | refine blk_alloc ?_ _)); refine blk_far ?_ NB484_490.out _; (with_reducible repeat (first | refine blk_drewN ?_ _ | refine blk_drew ?_ | refine blk_alloc ?_ _)); refine blk_far ?_ NB484_490.out _; (with_reducible repeat (first | refine blk_drewN ?_ _ | refine blk_drew ?_ | refine blk_alloc ?_ _)); refine blk_far ?_ NB484_490.out _; (with_reducible repeat (first | refine blk_drewN ?_ _ | refine blk_drew ?_ | refine blk_alloc ?_ _)); exact BK484.out)⟩, ⟨(by (with_reducible repeat (first | refine blk_drewN ?_ _ | refine blk_drew ?_ | refine blk_alloc ?_ _)); refine blk_put (cs := #[.int .i64 t485, .int .i64 t486, .int .i64 t487, .int .i64 0]) ?_ 3 _ rfl; (with_reducible repeat (first | refine blk_drewN ?_ _ | refine blk_drew ?_ | refine blk_alloc ?_ _)); refine blk_put (cs := #[.int .i64 t485, .int .i64 t486, .int .i64 0, .int .i64 0]) ?_ 2 _ rfl; (with_reducible repeat (first | refine blk_drewN ?_ _ | refine blk_drew ?_ | refine blk_alloc ?_ _)); refine blk_put (cs := #[.int .i64 t485, .int .i64 0, .int .i64 0, .int .i64 0]) ?_ 1 _ rfl; (with_reducible repeat (first | refine blk_drewN ?_ _ | refine blk_drew ?_ | refine blk_alloc ?_ _)); refine blk_put (cs := #[.int .i64 0, .int .i64 0, .int .i64 0, .int .i64 0]) ?_ 0 _ rfl; (with_reducible repeat (first | refine blk_drewN ?_ _ | refine blk_drew ?_ | refine blk_alloc ?_ _)); exact BK490.out)⟩, ⟨Z95⟩⟩)
            case rest =>
             clear HC695
             obtain ⟨kq, x301_694, rfl, HA, HJ694, BK393, BK394, BK439, BK445, BK451, BK477, BK478, BK484, BK490, HB⟩ := hcut
             cases kq with
             | zero => exact absurd HA.out (by simp [laws_FnCirclesTouch.j5])
             | succ kj694 =>
              have H := HA.out
              clear HA
              simp only [laws_FnCirclesTouch.j5] at H
              by_cases c753 : x301_694 = true
              ·
               subst c753
               have H1 : (some false) = some true := by rw [if_pos rfl] at H; exact H
               clear H
               have H := H1
               clear H1
               exact absurd (Option.some.inj H) (by decide)
              ·
               replace c753 := Bool.eq_false_iff.mpr c753
               subst c753
               have H1 : (if t483 = true then ((impl_ReflectCircle.f t479 t480 t481 t482 t473 t474 t475 t476).bind fun bt491 => ((impl_IsCircle.f t479 t480 t481 t482).bind fun t497 => (if t497 = true then (if bt491.2.2.2.2 = true then (some (bt491.1 == t469 && (bt491.2.1 == t470 && (bt491.2.2.1 == t471 && (bt491.2.2.2.1 == t472))))) else (some false)) else (some false)))) else (some true)) = some true := by rw [if_neg (show ¬ (false = true) by decide)] at H; exact H
               clear H
               have H := H1
               clear H1
               by_cases c754 : t483 = true
               ·
                subst c754
                have H1 : ((impl_ReflectCircle.f t479 t480 t481 t482 t473 t474 t475 t476).bind fun bt491 => ((impl_IsCircle.f t479 t480 t481 t482).bind fun t497 => (if t497 = true then (if bt491.2.2.2.2 = true then (some (bt491.1 == t469 && (bt491.2.1 == t470 && (bt491.2.2.1 == t471 && (bt491.2.2.2.1 == t472))))) else (some false)) else (some false)))) = some true := by rw [if_pos rfl] at H; exact H
                clear H
                have H := H1
                clear H1
                replace H := Option.bind_eq_some_iff.mp H
                obtain ⟨⟨t491, t492, t493, t494, t495⟩, A7550, H⟩ := H
                replace H : ((impl_IsCircle.f t479 t480 t481 t482).bind fun t497 => (if t497 = true then (if t495 = true then (some (t491 == t469 && (t492 == t470 && (t493 == t471 && (t494 == t472))))) else (some false)) else (some false))) = some true := H
                have A755 := Aside0.mk A7550
                clear A7550
                replace H := Option.bind_eq_some_iff.mp H
                obtain ⟨t497, A7560, H⟩ := H
                replace H : (if t497 = true then (if t495 = true then (some (t491 == t469 && (t492 == t470 && (t493 == t471 && (t494 == t472))))) else (some false)) else (some false)) = some true := H
                have A756 := Aside0.mk A7560
                clear A7560
                by_cases c757 : t497 = true
                ·
                 subst c757
                 have H1 : (if t495 = true then (some (t491 == t469 && (t492 == t470 && (t493 == t471 && (t494 == t472))))) else (some false)) = some true := by rw [if_pos rfl] at H; exact H
                 clear H
                 have H := H1
                 clear H1
                 by_cases c758 : t495 = true
                 · as_aux_lemma =>
                  subst c758
                  have H1 : (some (t491 == t469 && (t492 == t470 && (t493 == t471 && (t494 == t472))))) = some true := by rw [if_pos rfl] at H; exact H
                  clear H
                  have H := H1
                  clear H1
                  have H := Aside0.mk (Option.some.inj H)
                  have hnb759 := NB484_393.out
                  have hnc759 := NB393_484.out
                  have hnb760 := NB484_394.out
                  have hnc760 := NB394_484.out
                  have hnb761 := NB484_439.out
                  have hnc761 := NB439_484.out
                  have hnb762 := NB484_445.out
                  have hnc762 := NB445_484.out
                  have hnb763 := NB484_451.out
                  have hnc763 := NB451_484.out
                  have hnb764 := NB484_477.out
                  have hnc764 := NB477_484.out
                  have hnb765 := NB484_478.out
                  have hnc765 := NB478_484.out
                  have hnb766 := NB484_490.out
                  have hnc766 := NB490_484.out
                  have hcz767_0 : wc.cell? ⟨gb484, 0, none⟩ = some (.int .i64 t479) := (blk_cell BK484.out 0).trans rfl
                  have hcz767_1 : wc.cell? ⟨gb484, 1, none⟩ = some (.int .i64 t480) := (blk_cell BK484.out 1).trans rfl
                  have hcz767_2 : wc.cell? ⟨gb484, 2, none⟩ = some (.int .i64 t481) := (blk_cell BK484.out 2).trans rfl
                  have hcz767_3 : wc.cell? ⟨gb484, 3, none⟩ = some (.int .i64 t482) := (blk_cell BK484.out 3).trans rfl
                  have hfz767_0 := blk_frozen BK484.out 0
                  have hfz767_1 := blk_frozen BK484.out 1
                  have hfz767_2 := blk_frozen BK484.out 2
                  have hfz767_3 := blk_frozen BK484.out 3
                  have hnb768 := NB478_393.out
                  have hnc768 := NB393_478.out
                  have hnb769 := NB478_394.out
                  have hnc769 := NB394_478.out
                  have hnb770 := NB478_439.out
                  have hnc770 := NB439_478.out
                  have hnb771 := NB478_445.out
                  have hnc771 := NB445_478.out
                  have hnb772 := NB478_451.out
                  have hnc772 := NB451_478.out
                  have hnb773 := NB478_477.out
                  have hnc773 := NB477_478.out
                  have hnb774 := NB478_490.out
                  have hnc774 := NB490_478.out
                  have hcz775_0 : wc.cell? ⟨gb478, 0, none⟩ = some (.int .i64 t473) := (blk_cell BK478.out 0).trans rfl
                  have hcz775_1 : wc.cell? ⟨gb478, 1, none⟩ = some (.int .i64 t474) := (blk_cell BK478.out 1).trans rfl
                  have hcz775_2 : wc.cell? ⟨gb478, 2, none⟩ = some (.int .i64 t475) := (blk_cell BK478.out 2).trans rfl
                  have hcz775_3 : wc.cell? ⟨gb478, 3, none⟩ = some (.int .i64 t476) := (blk_cell BK478.out 3).trans rfl
                  have hfz775_0 := blk_frozen BK478.out 0
                  have hfz775_1 := blk_frozen BK478.out 1
                  have hfz775_2 := blk_frozen BK478.out 2
                  have hfz775_3 := blk_frozen BK478.out 3
                  go_wp2_with (first | ((with_reducible refine gate_callee (f := 17) rfl ?_); refine goesN_ 17 (some 306) Try.func17 #[.agg #[.int .i64 t479, .int .i64 t480, .int .i64 t481, .int .i64 t482], .agg #[.int .i64 t473, .int .i64 t474, .int .i64 t475, .int .i64 t476]] ?_; (with_reducible refine (impl_ReflectCircle.calls t479 t480 t481 t482 t473 t474 t475 t476 t491 t492 t493 t494 true _ A755.out).mono ?_); rintro e w776 ⟨rfl, hb⟩; refine ⟨_, rfl, ?_⟩; replace BK393 := bk_ BK393 hb; replace BK394 := bk_ BK394 hb; replace BK439 := bk_ BK439 hb; replace BK445 := bk_ BK445 hb; replace BK451 := bk_ BK451 hb; replace BK477 := bk_ BK477 hb; replace BK478 := bk_ BK478 hb; replace BK484 := bk_ BK484 hb; replace BK490 := bk_ BK490 hb; replace HB := Aside0.mk (below_step Z95 hb); clear hb) | ((with_reducible refine gate_dst (N := 50) rfl ?_); refine boxN_ 50 #[.int .i64 0, .int .i64 0, .int .i64 0, .int .i64 0] 25 ?_; intro gb496 hg w777 hbox hb; have BK496 := Aside0.mk hbox; have GW496 := gw_ (w := w) Z95 hg; have GE496 := gw_ (w := w) Z95 hg; replace HB := Aside0.mk (below_step Z95 hb); have NB393_496 := nl_ BK393 hg; have NB496_393 := ng_ BK393 hg; replace BK393 := bk_ BK393 hb; have NB394_496 := nl_ BK394 hg; have NB496_394 := ng_ BK394 hg; replace BK394 := bk_ BK394 hb; have NB439_496 := nl_ BK439 hg; have NB496_439 := ng_ BK439 hg; replace BK439 := bk_ BK439 hb; have NB445_496 := nl_ BK445 hg; have NB496_445 := ng_ BK445 hg; replace BK445 := bk_ BK445 hb; have NB451_496 := nl_ BK451 hg; have NB496_451 := ng_ BK451 hg; replace BK451 := bk_ BK451 hb; have NB477_496 := nl_ BK477 hg; have NB496_477 := ng_ BK477 hg; replace BK477 := bk_ BK477 hb; have NB478_496 := nl_ BK478 hg; have NB496_478 := ng_ BK478 hg; replace BK478 := bk_ BK478 hb; have NB484_496 := nl_ BK484 hg; have NB496_484 := ng_ BK484 hg; replace BK484 := bk_ BK484 hb; have NB490_496 := nl_ BK490 hg; have NB496_490 := ng_ BK490 hg; replace BK490 := bk_ BK490 hb; clear hb hbox hg; have hnb778 := NB496_393.out; have hnc778 := NB393_496.out; have hnb779 := NB496_394.out; have hnc779 := NB394_496.out; have hnb780 := NB496_439.out; have hnc780 := NB439_496.out; have hnb781 := NB496_445.out; have hnc781 := NB445_496.out; have hnb782 := NB496_451.out; have hnc782 := NB451_496.out; have hnb783 := NB496_477.out; have hnc783 := NB477_496.out; have hnb784 := NB496_478.out; have hnc784 := NB478_496.out; have hnb785 := NB496_484.out; have hnc785 := NB484_496.out; have hnb786 := NB496_490.out; have hnc786 := NB490_496.out; obtain ⟨_, _, _, _, _, _, _, _⟩ := cz4_ BK496; obtain ⟨_, _, _, _, _, _, _, _⟩ := cz4_ BK484) | ((with_reducible refine gate_callee (f := 15) rfl ?_); refine goesN_ 15 (some 310) Try.func15 #[.agg #[.int .i64 t479, .int .i64 t480, .int .i64 t481, .int .i64 t482]] ?_; (with_reducible refine (impl_IsCircle.calls t479 t480 t481 t482 true _ A756.out).mono ?_); rintro e w789 ⟨rfl, hb⟩; refine ⟨_, rfl, ?_⟩; replace BK393 := Aside0.mk (blk_below (g := gb393) (o := .cells #[.int .i64 t385, .int .i64 t386, .int .i64 t387, .int .i64 t388] 25 (0, 0)) (by (with_reducible repeat (first | refine blk_drewN ?_ _ | refine blk_drew ?_ | refine blk_alloc ?_ _)); refine blk_far ?_ NB393_496.out _; (with_reducible repeat (first | refine blk_drewN ?_ _ | refine blk_drew ?_ | refine blk_alloc ?_ _)); refine blk_far ?_ NB393_496.out _; (with_reducible repeat (first | refine blk_drewN ?_ _ | refine blk_drew ?_ | refine blk_alloc ?_ _)); refine blk_far ?_ NB393_496.out _; (with_reducible repeat (first | refine blk_drewN ?_ _ | refine blk_drew ?_ | refine blk_alloc ?_ _)); refine blk_far ?_ NB393_496.out _; (with_reducible repeat (first | refine blk_drewN ?_ _ | refine blk_drew ?_ | refine blk_alloc ?_ _)); exact BK393.out) hb); replace BK394 := Aside0.mk (blk_below (g := gb394) (o := .cells #[.int .i64 t389, .int .i64 t390, .int .i64 t391, .int .i64 t392] 25 (0, 0)) (by (with_reducible repeat (first | refine blk_drewN ?_ _ | refine blk_drew ?_ | refine blk_alloc ?_ _)); refine blk_far ?_ NB394_496.out _; (with_reducible repeat (first | refine blk_drewN ?_ _ | refine blk_drew ?_ | refine blk_alloc ?_ _)); refine blk_far ?_ NB394_496.out _; (with_reducible repeat (first | refine blk_drewN ?_ _ | refine blk_drew ?_ | refine blk_alloc ?_ _)); refine blk_far ?_ NB394_496.out _; (with_reducible repeat (first | refine blk_drewN ?_ _ | refine blk_drew ?_ | refine blk_alloc ?_ _)); refine blk_far ?_ NB394_496.out _; (with_reducible repeat (first | refine blk_drewN ?_ _ | refine blk_drew ?_ | refine blk_alloc ?_ _)); exact BK394.out) hb); replace BK439 := Aside0.mk (blk_below (g := gb439) (o := .cells #[.int .i64 t433, .int .i64 t434, .int .i64 t435, .int .i64 t436] 25 (0, 0)) (by (with_reducible repeat (first | refine blk_drewN ?_ _ | refine blk_drew ?_ | refine blk_alloc ?_ _)); refine blk_far ?_ NB439_496.out _; (with_reducible repeat (first | refine blk_drewN ?_ _ | refine blk_drew ?_ | refine blk_alloc ?_ _)); refine blk_far ?_ NB439_496.out _; (with_reducible repeat (first | refine blk_drewN ?_ _ | refine blk_drew ?_ | refine blk_alloc ?_ _)); refine blk_far ?_ NB439_496.out _; (with_reducible repeat (first | refine blk_drewN ?_ _ | refine blk_drew ?_ | refine blk_alloc ?_ _)); refine blk_far ?_ NB439_496.out _; (with_reducible repeat (first | refine blk_drewN ?_ _ | refine blk_drew ?_ | refine blk_alloc ?_ _)); exact BK439.out) hb); replace BK445 := Aside0.mk (blk_below (g := gb445) (o := .cells #[.int .i64 t440, .int .i64 t441, .int .i64 t442, .int .i64 t443] 25 (0, 0)) (by (with_reducible repeat (first | refine blk_drewN ?_ _ | refine blk_drew ?_ | refine blk_alloc ?_ _)); refine blk_far ?_ NB445_496.out _; (with_reducible repeat (first | refine blk_drewN ?_ _ | refine blk_drew ?_ | refine blk_alloc ?_ _)); refine blk_far ?_ NB445_496.out _; (with_reducible repeat (first | refine blk_drewN ?_ _ | refine blk_drew ?_ | refine blk_alloc ?_ _)); refine blk_far ?_ NB445_496.out _; (with_reducible repeat (first | refine blk_drewN ?_ _ | refine blk_drew ?_ | refine blk_alloc ?_ _)); refine blk_far ?_ NB445_496.out _; (with_reducible repeat (first | refine blk_drewN ?_ _ | refine blk_drew ?_ | refine blk_alloc ?_ _)); exact BK445.out) hb); replace BK451 := Aside0.mk (blk_below (g := gb451) (o := .cells #[.int .i64 t446, .int .i64 t447, .int .i64 t448, .int .i64 t449] 25 (0, 0)) (by (with_reducible repeat (first | refine blk_drewN ?_ _ | refine blk_drew ?_ | refine blk_alloc ?_ _)); refine blk_far ?_ NB451_496.out _; (with_reducible repeat (first | refine blk_drewN ?_ _ | refine blk_drew ?_ | refine blk_alloc ?_ _)); refine blk_far ?_ NB451_496.out _; (with_reducible repeat (first | refine blk_drewN ?_ _ | refine blk_drew ?_ | refine blk_alloc ?_ _)); refine blk_far ?_ NB451_496.out _; (with_reducible repeat (first | refine blk_drewN ?_ _ | refine blk_drew ?_ | refine blk_alloc ?_ _)); refine blk_far ?_ NB451_496.out _; (with_reducible repeat (first | refine blk_drewN ?_ _ | refine blk_drew ?_ | refine blk_alloc ?_ _)); exact BK451.out) hb); replace BK477 := Aside0.mk (blk_below (g := gb477) (o := .cells #[.int .i64 t469, .int .i64 t470, .int .i64 t471, .int .i64 t472] 25 (0, 0)) (by (with_reducible repeat (first | refine blk_drewN ?_ _ | refine blk_drew ?_ | refine blk_alloc ?_ _)); refine blk_far ?_ NB477_496.out _; (with_reducible repeat (first | refine blk_drewN ?_ _ | refine blk_drew ?_ | refine blk_alloc ?_ _)); refine blk_far ?_ NB477_496.out _; (with_reducible repeat (first | refine blk_drewN ?_ _ | refine blk_drew ?_ | refine blk_alloc ?_ _)); refine blk_far ?_ NB477_496.out _; (with_reducible repeat (first | refine blk_drewN ?_ _ | refine blk_drew ?_ | refine blk_alloc ?_ _)); refine blk_far ?_ NB477_496.out _; (with_reducible repeat (first | refine blk_drewN ?_ _ | refine blk_drew ?_ | refine blk_alloc ?_ _)); exact BK477.out) hb); replace BK478 := Aside0.mk (blk_below (g := gb478) (o := .cells #[.int .i64 t473, .int .i64 t474, .int .i64 t475, .int .i64 t476] 25 (0, 0)) (by (with_reducible repeat (first | refine blk_drewN ?_ _ | refine blk_drew ?_ | refine blk_alloc ?_ _)); refine blk_far ?_ NB478_496.out _; (with_reducible repeat (first | refine blk_drewN ?_ _ | refine blk_drew ?_ | refine blk_alloc ?_ _)); refine blk_far ?_ NB478_496.out _; (with_reducible repeat (first | refine blk_drewN ?_ _ | refine blk_drew ?_ | refine blk_alloc ?_ _)); refine blk_far ?_ NB478_496.out _; (with_reducible repeat (first | refine blk_drewN ?_ _ | refine blk_drew ?_ | refine blk_alloc ?_ _)); refine blk_far ?_ NB478_496.out _; (with_reducible repeat (first | refine blk_drewN ?_ _ | refine blk_drew ?_ | refine blk_alloc ?_ _)); exact BK478.out) hb); replace BK484 := Aside0.mk (blk_below (g := gb484) (o := .cells #[.int .i64 t479, .int .i64 t480, .int .i64 t481, .int .i64 t482] 25 (0, 0)) (by (with_reducible repeat (first | refine blk_drewN ?_ _ | refine blk_drew ?_ | refine blk_alloc ?_ _)); refine blk_far ?_ NB484_496.out _; (with_reducible repeat (first | refine blk_drewN ?_ _ | refine blk_drew ?_ | refine blk_alloc ?_ _)); refine blk_far ?_ NB484_496.out _; (with_reducible repeat (first | refine blk_drewN ?_ _ | refine blk_drew ?_ | refine blk_alloc ?_ _)); refine blk_far ?_ NB484_496.out _; (with_reducible repeat (first | refine blk_drewN ?_ _ | refine blk_drew ?_ | refine blk_alloc ?_ _)); refine blk_far ?_ NB484_496.out _; (with_reducible repeat (first | refine blk_drewN ?_ _ | refine blk_drew ?_ | refine blk_alloc ?_ _)); exact BK484.out) hb); replace BK490 := Aside0.mk (blk_below (g := gb490) (o := .cells #[.int .i64 t485, .int .i64 t486, .int .i64 t487, .int .i64 t488] 25 (0, 0)) (by (with_reducible repeat (first | refine blk_drewN ?_ _ | refine blk_drew ?_ | refine blk_alloc ?_ _)); refine blk_far ?_ NB490_496.out _; (with_reducible repeat (first | refine blk_drewN ?_ _ | refine blk_drew ?_ | refine blk_alloc ?_ _)); refine blk_far ?_ NB490_496.out _; (with_reducible repeat (first | refine blk_drewN ?_ _ | refine blk_drew ?_ | refine blk_alloc ?_ _)); refine blk_far ?_ NB490_496.out _; (with_reducible repeat (first | refine blk_drewN ?_ _ | refine blk_drew ?_ | refine blk_alloc ?_ _)); refine blk_far ?_ NB490_496.out _; (with_reducible repeat (first | refine blk_drewN ?_ _ | refine blk_drew ?_ | refine blk_alloc ?_ _)); exact BK490.out) hb); replace BK496 := Aside0.mk (blk_below (g := gb496) (o := .cells #[.int .i64 t491, .int .i64 t492, .int .i64 t493, .int .i64 t494] 25 (0, 0)) (by (with_reducible repeat (first | refine blk_drewN ?_ _ | refine blk_drew ?_ | refine blk_alloc ?_ _)); refine blk_put (cs := #[.int .i64 t491, .int .i64 t492, .int .i64 t493, .int .i64 0]) ?_ 3 _ rfl; (with_reducible repeat (first | refine blk_drewN ?_ _ | refine blk_drew ?_ | refine blk_alloc ?_ _)); refine blk_put (cs := #[.int .i64 t491, .int .i64 t492, .int .i64 0, .int .i64 0]) ?_ 2 _ rfl; (with_reducible repeat (first | refine blk_drewN ?_ _ | refine blk_drew ?_ | refine blk_alloc ?_ _)); refine blk_put (cs := #[.int .i64 t491, .int .i64 0, .int .i64 0, .int .i64 0]) ?_ 1 _ rfl; (with_reducible repeat (first | refine blk_drewN ?_ _ | refine blk_drew ?_ | refine blk_alloc ?_ _)); refine blk_put (cs := #[.int .i64 0, .int .i64 0, .int .i64 0, .int .i64 0]) ?_ 0 _ rfl; (with_reducible repeat (first | refine blk_drewN ?_ _ | refine blk_drew ?_ | refine blk_alloc ?_ _)); exact BK496.out) hb); replace HB := Aside0.mk (below_step (by repeat (first | (with_reducible first | exact HB.out | apply below_alloc | apply pw_below_drewN | apply below_drew1 | refine below_set ?_ GE393.out | refine below_set ?_ GE394.out | refine below_set ?_ GE439.out | refine below_set ?_ GE445.out | refine below_set ?_ GE451.out | refine below_set ?_ GE477.out | refine below_set ?_ GE478.out | refine below_set ?_ GE484.out | refine below_set ?_ GE490.out | refine below_set ?_ GE496.out) | exact HB.out)) hb); clear hb; obtain ⟨_, _, _, _, _, _, _, _⟩ := cz4_ BK496; have hnb791 := NB477_393.out; have hnc791 := NB393_477.out; have hnb792 := NB477_394.out; have hnc792 := NB394_477.out; have hnb793 := NB477_439.out; have hnc793 := NB439_477.out; have hnb794 := NB477_445.out; have hnc794 := NB445_477.out; have hnb795 := NB477_451.out; have hnc795 := NB451_477.out; have hnb796 := NB477_490.out; have hnc796 := NB490_477.out; obtain ⟨_, _, _, _, _, _, _, _⟩ := cz4_ BK477))
                  all_goals (have H := H.out; simp only [Bool.and_eq_true, beq_iff_eq] at H; obtain ⟨hs1, hs2, hs3, hs4⟩ := H)
                  all_goals first | contradiction | (go_ret; exact ⟨Z106, (by repeat (first | (with_reducible first | exact HB.out | apply below_alloc | apply pw_below_drewN | apply below_drew1 | refine below_set ?_ GE393.out | refine below_set ?_ GE394.out | refine below_set ?_ GE439.out | refine below_set ?_ GE445.out | refine below_set ?_ GE451.out | refine below_set ?_ GE477.out | refine below_set ?_ GE478.out | refine below_set ?_ GE484.out | refine below_set ?_ GE490.out | refine below_set ?_ GE496.out) | exact HB.out))⟩)

                 ·
                  replace c758 := Bool.eq_false_iff.mpr c758
                  subst c758
                  have H1 : (some false) = some true := by rw [if_neg (show ¬ (false = true) by decide)] at H; exact H
                  clear H
                  have H := H1
                  clear H1
                  exact absurd (Option.some.inj H) (by decide)
                ·
                 replace c757 := Bool.eq_false_iff.mpr c757
                 subst c757
                 have H1 : (some false) = some true := by rw [if_neg (show ¬ (false = true) by decide)] at H; exact H
                 clear H
                 have H := H1
                 clear H1
                 exact absurd (Option.some.inj H) (by decide)
               · as_aux_lemma =>
                replace c754 := Bool.eq_false_iff.mpr c754
                subst c754
                have H1 : (some true) = some true := rfl
                clear H
                have H := H1
                clear H1
                clear H
                go_wp2
                go_ret
                exact ⟨Z106, Z95⟩

/-- THE ONE PURE STATEMENT of laws_FnCirclesTouch: yours. -/
def laws_FnCirclesTouch.Pure : Prop := ∀ (l0 : List Int) (l1 : List Int), l0.length ≤ maxLen → l0.length * 1 ≤ 140737488351232 → (∀ x ∈ l0, (Lit.int .u8 x).wf = true) → l1.length ≤ maxLen → l1.length * 1 ≤ 140737488351232 → (∀ x ∈ l1, (Lit.int .u8 x).wf = true) → ∃ k, laws_FnCirclesTouch.f k l0 l1 = some true
theorem laws_FnCirclesTouch.walk (P : laws_FnCirclesTouch.Pure) (a0 : Option Addr) (len0 cap0 : Nat) (z0 : List Int) (a1 : Option Addr) (len1 cap1 : Nat) (z1 : List Int) (w : World) (w0 : (a0 = none ∧ len0 = 0 ∧ cap0 = 0 ∧ z0 = []) ∨ ∃ x, a0 = some x ∧ len0 ≤ cap0 ∧ cap0 ≤ maxLen ∧ z0.length = cap0 ∧ (∀ i, i < z0.length → w.cell? (x.add i) = some (.int .u8 (z0.getD i 0))) ∧ ∀ n ∈ z0, (Lit.int .u8 n).wf = true) (y0 : len0 * 1 ≤ 140737488351232) (w1 : (a1 = none ∧ len1 = 0 ∧ cap1 = 0 ∧ z1 = []) ∨ ∃ x, a1 = some x ∧ len1 ≤ cap1 ∧ cap1 ≤ maxLen ∧ z1.length = cap1 ∧ (∀ i, i < z1.length → w.cell? (x.add i) = some (.int .u8 (z1.getD i 0))) ∧ ∀ n ∈ z1, (Lit.int .u8 n).wf = true) (y1 : len1 * 1 ≤ 140737488351232) :
  Calls Try.prog 3 #[.slice a0 len0 cap0, .slice a1 len1 cap1] w fun e w' => e = .returned (.bool true) ∧ Below w.heap.size w w' := by
 obtain ⟨l0, rfl, hr0, hm0, hw0, hc0⟩ := ReadsInt.ofRowC w0
 obtain ⟨l1, rfl, hr1, hm1, hw1, hc1⟩ := ReadsInt.ofRowC w1
 obtain ⟨k, h⟩ := P l0 l1 hm0 y0 hw0 hm1 y1 hw1
 refine (laws_FnCirclesTouch.calls k _ _ l0 _ _ l1 true w (Kd.C_of_reads (d := (0 : Int)) (h1 := fun _ => rfl) hr0) hc0 (Kd.C_of_reads (d := (0 : Int)) (h1 := fun _ => rfl) hr1) hc1 h).mono ?_
 rintro e w' ⟨rfl, hd⟩
 exact ⟨rfl, hd⟩


end Go.Proofs.Ytkllcinoodfffaa.P
