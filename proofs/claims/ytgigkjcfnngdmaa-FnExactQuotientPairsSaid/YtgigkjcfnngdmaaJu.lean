import Derived.Test.YtgigkjcfnngdmaaP1
import Derived.Test.YtgigkjcfnngdmaaP2
import Derived.Test.YtgigkjcfnngdmaaP4
namespace Go.Proofs.Ytgigkjcfnngdmaa.P
open Go.RowKit Go.Proofs.YtgigkjcfnngdmaaW.PrintWords Go.Proofs.YtgigkjcfnngdmaaW.PrintLast Go.Proofs.YtgigkjcfnngdmaaW.PrintMore
theorem wrap_id {x : Int} (h0 : -9223372036854775808 ≤ x) (h1 : x ≤ 9223372036854775807) : wrap64 x = x := by unfold wrap64; omega
theorem mulb {a b A B : Int} (h0 : 0 ≤ a) (h1 : a ≤ A) (h2 : 0 ≤ b) (h3 : b ≤ B) : 0 ≤ a * b ∧ a * b ≤ A * B :=
  ⟨Int.mul_nonneg h0 h2, Int.mul_le_mul h1 h3 h2 (by omega)⟩
theorem l1In_f (x lo hi : Int) : spec_l1In.f x lo hi = some (decide (lo ≤ x ∧ x ≤ hi)) := by
  unfold spec_l1In.f
  by_cases h : x ≥ lo
  · rw [if_pos h]; simp [show lo ≤ x from h]
  · rw [if_neg h]; simp [show ¬ lo ≤ x from h]
theorem within_f (x lo hi : Int) : impl_within.f x lo hi = some (decide (lo ≤ x ∧ x ≤ hi)) := by
  unfold impl_within.f
  by_cases h : x ≥ lo
  · rw [if_pos h]; simp [show lo ≤ x from h]
  · rw [if_neg h]; simp [show ¬ lo ≤ x from h]
def JuGiven (k c : Int) : Prop := 1 ≤ k ∧ k ≤ 1000 ∧ -1000 ≤ c ∧ c ≤ 1000
instance (k c : Int) : Decidable (JuGiven k c) := by unfold JuGiven; infer_instance
theorem juGiven_f (k c : Int) : spec_juGiven.f k c = some (decide (JuGiven k c)) := by
  unfold spec_juGiven.f JuGiven
  simp only [l1In_f, Option.bind_some]
  by_cases h : 1 ≤ k ∧ k ≤ 1000
  · simp [h]
  · simp [h]; exact decide_eq_false (fun g => h ⟨g.1, g.2.1⟩)
theorem areConstants_f (k c : Int) : impl_areConstants.f k c = some (decide (JuGiven k c)) := by
  unfold impl_areConstants.f JuGiven
  simp only [within_f, Option.bind_some]
  by_cases h : 1 ≤ k ∧ k ≤ 1000
  · simp [h]
  · simp [h]; exact decide_eq_false (fun g => h ⟨g.1, g.2.1⟩)
def JuPair (x y k c : Int) : Prop := 0 ≤ y ∧ y ≤ x ∧ x ≤ 1000000 ∧ x * x + y * y + c = k * x * y
instance (x y k c : Int) : Decidable (JuPair x y k c) := by unfold JuPair; infer_instance
theorem good_eq {x y k c : Int} (hg : JuGiven k c) (h0 : 0 ≤ y) (h1 : y ≤ x) (h2 : x ≤ 1000000) :
    ((wrap64 ((wrap64 ((wrap64 (x * x)) + (wrap64 (y * y)))) + c)) == (wrap64 ((wrap64 (k * x)) * y))) = decide (x * x + y * y + c = k * x * y) := by
  obtain ⟨k1, k2, c1, c2⟩ := hg
  have a := mulb (show 0 ≤ x by omega) h2 (show 0 ≤ x by omega) h2
  have b := mulb h0 (show y ≤ 1000000 by omega) h0 (show y ≤ 1000000 by omega)
  have d := mulb (show 0 ≤ k by omega) k2 (show 0 ≤ x by omega) h2
  have e := mulb d.1 d.2 h0 (show y ≤ 1000000 by omega)
  rw [wrap_id (x := x * x) (by omega) (by omega), wrap_id (x := y * y) (by omega) (by omega), wrap_id (x := x * x + y * y) (by omega) (by omega), wrap_id (x := x * x + y * y + c) (by omega) (by omega), wrap_id (x := k * x) (by omega) (by omega), wrap_id (x := k * x * y) (by omega) (by omega)]
  rfl
theorem juGood_f {x y k c : Int} (hg : JuGiven k c) : spec_juGood.f x y k c = some (decide (JuPair x y k c)) := by
  unfold spec_juGood.f JuPair
  simp only [l1In_f, Option.bind_some]
  by_cases h : 0 ≤ x ∧ x ≤ 1000000
  · by_cases h' : 0 ≤ y ∧ y ≤ x
    · simp [h, h', good_eq hg h'.1 h'.2 h.2]
    · simp [h, h']; intro g1 g2; exact absurd ⟨g1, g2⟩ h'
  · simp [h]; exact decide_eq_false (fun g => h ⟨by omega, g.2.2.1⟩)
theorem isJump_f {x y k c : Int} (hg : JuGiven k c) : impl_isJump.f x y k c = some (decide (JuPair x y k c)) := by
  unfold impl_isJump.f JuPair
  simp only [within_f, Option.bind_some]
  by_cases h : 0 ≤ y ∧ y ≤ 1000000
  · by_cases h' : y ≤ x ∧ x ≤ 1000000
    · simp [h, h', good_eq hg h.1 h'.1 h'.2]
    · simp [h, h']; intro g1 g2; exact absurd ⟨g1, g2⟩ h'
  · simp [h]; exact decide_eq_false (fun g => h ⟨g.1, by omega⟩)
/-- The jump up and the jump down, as both texts compute them. -/
def upR (x y k : Int) : Int × Int × Bool := if x ≤ k * x - y ∧ k * x - y ≤ 1000000 then (k * x - y, x, true) else (0, 0, false)
def downR (x y k : Int) : Int × Int × Bool := if 0 ≤ k * y - x ∧ k * y - x < x then (if k * y - x < y then (y, k * y - x, true) else (k * y - x, y, true)) else (0, 0, false)
theorem spec_juDown_f {x y k : Int} (h0 : 0 ≤ y) (h1 : y ≤ x) (h2 : x ≤ 1000000) (k1 : 0 ≤ k) (k2 : k ≤ 1000000) : spec_juDown.f x y k = some (downR x y k) := by
  have d := mulb k1 k2 h0 (show y ≤ 1000000 by omega)
  unfold spec_juDown.f downR
  simp only [l1In_f, Option.bind_some]
  rw [wrap_id (x := k * y) (by omega) (by omega), wrap_id (x := k * y - x) (by omega) (by omega), wrap_id (x := x - 1) (by omega) (by omega)]
  by_cases h : 0 ≤ k * y - x ∧ k * y - x < x
  · have h' : 0 ≤ k * y - x ∧ k * y - x ≤ x - 1 := by omega
    rw [if_pos h, decide_eq_true h', if_pos rfl]
    split <;> rfl
  · have h' : ¬ (0 ≤ k * y - x ∧ k * y - x ≤ x - 1) := by omega
    rw [if_neg h, decide_eq_false h', if_neg (by decide)]
theorem impl_jumpDown_f {x y k : Int} (h0 : 0 ≤ y) (h1 : y ≤ x) (h2 : x ≤ 1000000) (k1 : 0 ≤ k) (k2 : k ≤ 1000000) : impl_jumpDown.f x y k = some (downR x y k) := by
  have d := mulb k1 k2 h0 (show y ≤ 1000000 by omega)
  unfold impl_jumpDown.f downR mx mn
  rw [wrap_id (x := k * y) (by omega) (by omega), wrap_id (x := k * y - x) (by omega) (by omega)]
  by_cases h : 0 ≤ k * y - x ∧ k * y - x < x
  · rw [if_pos h, if_neg (by omega), if_neg (by omega)]
    by_cases e : k * y - x < y
    · rw [if_pos e, if_pos e, if_neg (by omega)]
    · rw [if_neg e, if_neg e]
      by_cases e' : y < k * y - x
      · rw [if_pos e']
      · rw [if_neg e', show k * y - x = y by omega]
  · rw [if_neg h]
    by_cases e : k * y - x < 0
    · rw [if_pos e]
    · rw [if_neg e, if_pos (by omega)]
theorem impl_jumpUp_f {x y k : Int} (h0 : 0 ≤ y) (h1 : y ≤ x) (h2 : x ≤ 1000000) (k1 : 0 ≤ k) (k2 : k ≤ 1000000) : impl_jumpUp.f x y k = some (upR x y k) := by
  have d := mulb k1 k2 (show 0 ≤ x by omega) h2
  unfold impl_jumpUp.f upR
  simp only [within_f, Option.bind_some]
  rw [wrap_id (x := k * x) (by omega) (by omega), wrap_id (x := k * x - y) (by omega) (by omega)]
  by_cases h : x ≤ k * x - y ∧ k * x - y ≤ 1000000
  · rw [if_pos h, decide_eq_true h, if_pos rfl]
  · rw [if_neg h, decide_eq_false h, if_neg (by decide)]
theorem downR_spec {x y k : Int} (h0 : 0 ≤ y) (h1 : y ≤ x) (h2 : x ≤ 1000000) (h : (downR x y k).2.2 = true) :
    0 ≤ (downR x y k).2.1 ∧ (downR x y k).2.1 ≤ (downR x y k).1 ∧ (downR x y k).1 ≤ 1000000 ∧ (downR x y k).1 + (downR x y k).2.1 < x + y := by
  unfold downR at h ⊢
  split
  · rename_i g
    split <;> (simp only; omega)
  · rename_i g
    rw [if_neg g] at h
    cases h
theorem jumper_f {x y k c : Int} : impl_isJumper.f x y k c = some (decide (JuGiven k c) && decide (JuPair x y k c)) := by
  unfold impl_isJumper.f
  simp only [areConstants_f, Option.bind_some]
  by_cases hg : JuGiven k c
  · simp [hg, isJump_f hg]
  · simp [hg]
theorem cells_snoc (l : List (List Int)) (r : List Int) : cellsOf (l ++ [r]) = cellsOf l + r.length := by
  induction l with
  | nil => simp [cellsOf]
  | cons a l ih => simp only [List.cons_append, cellsOf, ih]; omega

end Go.Proofs.Ytgigkjcfnngdmaa.P
