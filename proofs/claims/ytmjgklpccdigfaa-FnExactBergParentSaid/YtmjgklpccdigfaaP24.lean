/- Written by a program of this session: for Go functions that a statement reaches, Lean functions with the same answers and the proofs that the calls come to them; conditions: none but the arguments' kinds. -/
import Derived.Test.YtmjgklpccdigfaaP0
import Derived.Test.YtmjgklpccdigfaaP15
import Derived.Test.YtmjgklpccdigfaaP23
namespace Go.Proofs.Ytmjgklpccdigfaa.P
open Go.RowKit Go.Proofs.YtmjgklpccdigfaaW.PrintWords Go.Proofs.YtmjgklpccdigfaaW.PrintLast Go.Proofs.YtmjgklpccdigfaaW.PrintMore
attribute [local go_sem] max2_int min2_int max_two min_two max_three min_three max_four min_four   -- for this text's walks alone
set_option linter.unusedVariables false
set_option linter.unusedSimpArgs false

/-! ### impl_BergParent: function 31 -/
def impl_BergParent.f (k : Nat) (l0 : List Int) : Option (List Int × Int × Bool) := parentF impl_berg_2.f k l0
theorem impl_BergParent.mono : ∀ a0 k, LeO (impl_BergParent.f k a0) (impl_BergParent.f (k + 1) a0) := parentF.mono _
set_option maxHeartbeats 8000000 in
set_option maxRecDepth 100000 in
theorem impl_BergParent.calls (k : Nat) (A0 : Option Addr) (c0 : Nat) (l0 : List Int) (r1 : List Int) (r2 : Int) (r3 : Bool) (w : World) (hr0 : Kd.C (Kd.int .i64) w A0 l0.length l0) (hc0 : l0.length ≤ c0) (h : impl_BergParent.f k l0 = some (r1, r2, r3)) :
    Calls Try.prog 31 #[.slice A0 l0.length c0] w fun e w' => ∃ v0_ : Value, e = .returned (.tuple #[v0_, .int .i64 r2, .bool r3]) ∧ Kd.R (Kd.int .i64) 3 w' w.heap.size (fun _ => True) v0_ r1 ∧ Below w.heap.size w w' := by
  have HR0 := Aside0.mk hr0
  have HC0 := Aside0.mk hc0
  have H := Aside0.mk h
  clear hr0 hc0 h
  go_enter Try.func31, Try.ntmps31
  go_wp2_with fail
  refine (impl_berg.calls _).mono ?_
  rintro e w1 ⟨rfl, hb1⟩
  have HB1 := Aside0.mk hb1
  clear hb1
  go_wp2_with fail
  refine (impl_tree_parentOf.calls _ _ impl_berg.parentEnters impl_berg_2.f impl_berg.parent k A0 c0 l0 r1 r2 r3 w1 (Kd.C_below HR0.out HB1.out) HC0.out H.out).mono ?_
  rintro e w2 ⟨v, rfl, hr, hb2⟩
  have HR2 := Aside0.mk (Kd.R_lower hr HB1.out.size)
  have HB2 := Aside0.mk (below_step HB1.out hb2)
  clear hr hb2
  go_wp2
  go_ret3
  exact ⟨_, rfl, HR2.out, HB2.out⟩

end Go.Proofs.Ytmjgklpccdigfaa.P
