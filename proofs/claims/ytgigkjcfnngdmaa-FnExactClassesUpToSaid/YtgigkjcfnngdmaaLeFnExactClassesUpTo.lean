import Derived.Test.YtgigkjcfnngdmaaP1
import Derived.Test.YtgigkjcfnngdmaaP2
import Derived.Test.YtgigkjcfnngdmaaP6
import Derived.Test.YtgigkjcfnngdmaaP12
import Derived.Test.YtgigkjcfnngdmaaP17
import Derived.Test.YtgigkjcfnngdmaaP21
import Derived.Test.YtgigkjcfnngdmaaP22
namespace Go.Proofs.Ytgigkjcfnngdmaa.P
open Go.RowKit Go.Proofs.YtgigkjcfnngdmaaW.PrintWords Go.Proofs.YtgigkjcfnngdmaaW.PrintLast Go.Proofs.YtgigkjcfnngdmaaW.PrintMore
theorem wrap_id {x : Int} (h0 : -9223372036854775808 ≤ x) (h1 : x ≤ 9223372036854775807) : wrap64 x = x := by unfold wrap64; omega
theorem mulb {a b A B : Int} (h0 : 0 ≤ a) (h1 : a ≤ A) (h2 : 0 ≤ b) (h3 : b ≤ B) : 0 ≤ a * b ∧ a * b ≤ A * B :=
  ⟨Int.mul_nonneg h0 h2, Int.mul_le_mul h1 h3 h2 (by omega)⟩
theorem l1In_f (x lo hi : Int) : spec_l1In.f x lo hi = some (decide (lo ≤ x ∧ x ≤ hi)) := by
  unfold spec_l1In.f
  by_cases h : x ≥ lo
  · rw [if_pos h]; simp [show lo ≤ x from h]
  · rw [if_neg h]; simp [show ¬ lo ≤ x from h]
theorem within_f (x lo hi : Int) : impl_within.f x lo hi = some (decide (lo ≤ x ∧ x ≤ hi)) := by
  unfold impl_within.f
  by_cases h : x ≥ lo
  · rw [if_pos h]; simp [show lo ≤ x from h]
  · rw [if_neg h]; simp [show ¬ lo ≤ x from h]
def JuGiven (k c : Int) : Prop := 1 ≤ k ∧ k ≤ 1000 ∧ -1000 ≤ c ∧ c ≤ 1000
instance (k c : Int) : Decidable (JuGiven k c) := by unfold JuGiven; infer_instance
theorem juGiven_f (k c : Int) : spec_juGiven.f k c = some (decide (JuGiven k c)) := by
  unfold spec_juGiven.f JuGiven
  simp only [l1In_f, Option.bind_some]
  by_cases h : 1 ≤ k ∧ k ≤ 1000
  · simp [h]
  · simp [h]; exact decide_eq_false (fun g => h ⟨g.1, g.2.1⟩)
theorem areConstants_f (k c : Int) : impl_areConstants.f k c = some (decide (JuGiven k c)) := by
  unfold impl_areConstants.f JuGiven
  simp only [within_f, Option.bind_some]
  by_cases h : 1 ≤ k ∧ k ≤ 1000
  · simp [h]
  · simp [h]; exact decide_eq_false (fun g => h ⟨g.1, g.2.1⟩)
def JuPair (x y k c : Int) : Prop := 0 ≤ y ∧ y ≤ x ∧ x ≤ 1000000 ∧ x * x + y * y + c = k * x * y
instance (x y k c : Int) : Decidable (JuPair x y k c) := by unfold JuPair; infer_instance
theorem good_eq {x y k c : Int} (hg : JuGiven k c) (h0 : 0 ≤ y) (h1 : y ≤ x) (h2 : x ≤ 1000000) :
    ((wrap64 ((wrap64 ((wrap64 (x * x)) + (wrap64 (y * y)))) + c)) == (wrap64 ((wrap64 (k * x)) * y))) = decide (x * x + y * y + c = k * x * y) := by
  obtain ⟨k1, k2, c1, c2⟩ := hg
  have a := mulb (show 0 ≤ x by omega) h2 (show 0 ≤ x by omega) h2
  have b := mulb h0 (show y ≤ 1000000 by omega) h0 (show y ≤ 1000000 by omega)
  have d := mulb (show 0 ≤ k by omega) k2 (show 0 ≤ x by omega) h2
  have e := mulb d.1 d.2 h0 (show y ≤ 1000000 by omega)
  rw [wrap_id (x := x * x) (by omega) (by omega), wrap_id (x := y * y) (by omega) (by omega), wrap_id (x := x * x + y * y) (by omega) (by omega), wrap_id (x := x * x + y * y + c) (by omega) (by omega), wrap_id (x := k * x) (by omega) (by omega), wrap_id (x := k * x * y) (by omega) (by omega)]
  rfl
theorem juGood_f {x y k c : Int} (hg : JuGiven k c) : spec_juGood.f x y k c = some (decide (JuPair x y k c)) := by
  unfold spec_juGood.f JuPair
  simp only [l1In_f, Option.bind_some]
  by_cases h : 0 ≤ x ∧ x ≤ 1000000
  · by_cases h' : 0 ≤ y ∧ y ≤ x
    · simp [h, h', good_eq hg h'.1 h'.2 h.2]
    · simp [h, h']; intro g1 g2; exact absurd ⟨g1, g2⟩ h'
  · simp [h]; exact decide_eq_false (fun g => h ⟨by omega, g.2.2.1⟩)
theorem isJump_f {x y k c : Int} (hg : JuGiven k c) : impl_isJump.f x y k c = some (decide (JuPair x y k c)) := by
  unfold impl_isJump.f JuPair
  simp only [within_f, Option.bind_some]
  by_cases h : 0 ≤ y ∧ y ≤ 1000000
  · by_cases h' : y ≤ x ∧ x ≤ 1000000
    · simp [h, h', good_eq hg h.1 h'.1 h'.2]
    · simp [h, h']; intro g1 g2; exact absurd ⟨g1, g2⟩ h'
  · simp [h]; exact decide_eq_false (fun g => h ⟨g.1, by omega⟩)
def downR (x y k : Int) : Int × Int × Bool := if 0 ≤ k * y - x ∧ k * y - x < x then (if k * y - x < y then (y, k * y - x, true) else (k * y - x, y, true)) else (0, 0, false)
theorem spec_juDown_f {x y k : Int} (h0 : 0 ≤ y) (h1 : y ≤ x) (h2 : x ≤ 1000000) (k1 : 0 ≤ k) (k2 : k ≤ 1000000) : spec_juDown.f x y k = some (downR x y k) := by
  have d := mulb k1 k2 h0 (show y ≤ 1000000 by omega)
  unfold spec_juDown.f downR
  simp only [l1In_f, Option.bind_some]
  rw [wrap_id (x := k * y) (by omega) (by omega), wrap_id (x := k * y - x) (by omega) (by omega), wrap_id (x := x - 1) (by omega) (by omega)]
  by_cases h : 0 ≤ k * y - x ∧ k * y - x < x
  · have h' : 0 ≤ k * y - x ∧ k * y - x ≤ x - 1 := by omega
    rw [if_pos h, decide_eq_true h', if_pos rfl]
    split <;> rfl
  · have h' : ¬ (0 ≤ k * y - x ∧ k * y - x ≤ x - 1) := by omega
    rw [if_neg h, decide_eq_false h', if_neg (by decide)]
theorem impl_jumpDown_f {x y k : Int} (h0 : 0 ≤ y) (h1 : y ≤ x) (h2 : x ≤ 1000000) (k1 : 0 ≤ k) (k2 : k ≤ 1000000) : impl_jumpDown.f x y k = some (downR x y k) := by
  have d := mulb k1 k2 h0 (show y ≤ 1000000 by omega)
  unfold impl_jumpDown.f downR mx mn
  rw [wrap_id (x := k * y) (by omega) (by omega), wrap_id (x := k * y - x) (by omega) (by omega)]
  by_cases h : 0 ≤ k * y - x ∧ k * y - x < x
  · rw [if_pos h, if_neg (by omega), if_neg (by omega)]
    by_cases e : k * y - x < y
    · rw [if_pos e, if_pos e, if_neg (by omega)]
    · rw [if_neg e, if_neg e]
      by_cases e' : y < k * y - x
      · rw [if_pos e']
      · rw [if_neg e', show k * y - x = y by omega]
  · rw [if_neg h]
    by_cases e : k * y - x < 0
    · rw [if_pos e]
    · rw [if_neg e, if_pos (by omega)]
theorem pbIn_l (p : Int → Int → Bool) (L : Bool) {k c : Int} (hg : JuGiven k c) (hp : ∀ x y, JuPair x y k c → p x y = (if L = true then !(downR x y k).2.2 else true)) (m x : Int) (hx0 : 0 ≤ x) (hx : x ≤ 200) (G : List (List Int) → List (List Int)) (hG : ∀ out : List (List Int), out.length ≤ 300 * (x + 1).toNat → Ev (fun n => spec_juUpTo.l0 n k c m L out (x + 1)) (G out)) (d : Nat) :
    ∀ (y : Int) (out : List (List Int)), 0 ≤ y → y + d = x + 1 → out.length ≤ 300 * x.toNat + y.toNat → Ev (fun n => spec_juUpTo.l1 n k c m L out x y) (G (pbIn p k c x y d out)) := by
  have hj : ∀ x y, jmB x y k c = decide (JuPair x y k c) := fun x y => by unfold jmB; rw [isJump_f hg]; rfl
  have hg' := hg
  obtain ⟨k1, k2, c1, c2⟩ := hg'
  induction d with
  | zero =>
    intro y out hy hyd hl
    simp only [pbIn]
    refine Ev.step (f := fun n => spec_juUpTo.l0 n k c m L out (x + 1)) (fun n => ?_) (hG out (by omega))
    simp only [spec_juUpTo.l1]
    rw [if_neg (by omega), wrap_id (by omega) (by omega)]
  | succ d ih =>
    intro y out hy hyd hl
    simp only [pbIn, hj]
    by_cases hP : JuPair x y k c
    · have hq := hp x y hP
      rw [decide_eq_true hP, Bool.true_and]
      have hdown := spec_juDown_f (x := x) (y := y) (k := k) hP.1 hP.2.1 hP.2.2.1 (by omega) (by omega)
      by_cases hpt : p x y = true
      · rw [if_pos hpt]
        refine Ev.step (f := fun n => spec_juUpTo.l1 n k c m L (out ++ [[x, y]]) x (y + 1)) (fun n => ?_) (ih (y + 1) (out ++ [[x, y]]) (by omega) (by omega) (by simp; omega))
        simp only [spec_juUpTo.l1]
        rw [if_pos (by omega), juGood_f hg, decide_eq_true hP, wrap_id (by omega) (by omega)]
        simp only [Option.bind_some, if_true, hdown]
        rw [if_pos (show out.length < 5864062014805 by omega)]
        cases L with
        | false => rfl
        | true =>
          rw [hpt] at hq
          simp only [if_true] at hq ⊢
          have hd : (downR x y k).2.2 = false := by simpa using hq.symm
          rw [if_neg (by rw [hd]; decide)]
      · rw [if_neg hpt]
        refine Ev.step (f := fun n => spec_juUpTo.l1 n k c m L out x (y + 1)) (fun n => ?_) (ih (y + 1) out (by omega) (by omega) (by omega))
        simp only [spec_juUpTo.l1]
        rw [if_pos (by omega), juGood_f hg, decide_eq_true hP, wrap_id (by omega) (by omega)]
        simp only [Option.bind_some, if_true, hdown]
        cases L with
        | false =>
          exfalso
          exact hpt (by rw [hq]; rfl)
        | true =>
          have hd : (downR x y k).2.2 = true := by
            rw [hq] at hpt
            simpa using hpt
          simp only [if_true]
          rw [if_pos hd]
    · rw [decide_eq_false hP, Bool.false_and, if_neg (by decide)]
      refine Ev.step (f := fun n => spec_juUpTo.l1 n k c m L out x (y + 1)) (fun n => ?_) (ih (y + 1) out (by omega) (by omega) (by omega))
      simp only [spec_juUpTo.l1]
      rw [if_pos (by omega), juGood_f hg, decide_eq_false hP, wrap_id (by omega) (by omega)]
      simp only [Option.bind_some, Bool.false_eq_true, if_false]
theorem pbOut_l (p : Int → Int → Bool) (L : Bool) {k c : Int} (hg : JuGiven k c) (hp : ∀ x y, JuPair x y k c → p x y = (if L = true then !(downR x y k).2.2 else true)) (m : Int) (hm : m ≤ 200) (d : Nat) :
    ∀ (x : Int) (out : List (List Int)), 0 ≤ x → x + d = m + 1 → out.length ≤ 300 * x.toNat → Ev (fun n => spec_juUpTo.l0 n k c m L out x) (pbOut p k c x d out) := by
  induction d with
  | zero =>
    intro x out hx hxd hl
    simp only [pbOut]
    refine Ev.step (f := fun _ => some out) (fun n => ?_) (Ev.now _)
    simp only [spec_juUpTo.l0]
    rw [if_neg (by omega)]
  | succ d ih =>
    intro x out hx hxd hl
    simp only [pbOut]
    refine Ev.step (f := fun n => spec_juUpTo.l1 n k c m L out x 0) (fun n => ?_) (pbIn_l p L hg hp m x hx (by omega) (fun o => pbOut p k c (x + 1) d o) (fun o ho => ih (x + 1) o (by omega) (by omega) ho) (x + 1).toNat 0 out (by omega) (by omega) (by simpa using hl))
    simp only [spec_juUpTo.l0]
    rw [if_pos (by omega)]
theorem cells_pb (p : Int → Int → Bool) (k c x : Int) (d : Nat) : ∀ y out, (∀ r ∈ out, r.length = 2) → ∀ r ∈ pbIn p k c x y d out, r.length = 2 := by
  induction d with
  | zero => intro y out h r hr; exact h r hr
  | succ d ih =>
    intro y out h r hr
    simp only [pbIn] at hr
    refine ih (y + 1) _ ?_ r hr
    intro q hq
    split at hq
    · rcases List.mem_append.1 hq with hq | hq
      · exact h q hq
      · simp at hq; rw [hq]; rfl
    · exact h q hq
theorem cells_po (p : Int → Int → Bool) (k c : Int) (d : Nat) : ∀ x out, (∀ r ∈ out, r.length = 2) → ∀ r ∈ pbOut p k c x d out, r.length = 2 := by
  induction d with
  | zero => intro x out h r hr; exact h r hr
  | succ d ih =>
    intro x out h r hr
    simp only [pbOut] at hr
    exact ih (x + 1) _ (cells_pb p k c x _ 0 out h) r hr
theorem cells_two : ∀ l : List (List Int), (∀ r ∈ l, r.length = 2) → cellsOf l = 2 * l.length
  | [], _ => rfl
  | r :: l, h => by
    have h1 := h r (List.mem_cons_self ..)
    have h2 := cells_two l (fun q hq => h q (List.mem_cons_of_mem _ hq))
    simp only [cellsOf, List.length_cons]
    omega
theorem pbR_size (p : Int → Int → Bool) (k c m : Int) : (pbR p k c m).1.length ≤ 1000 ∧ cellsOf (pbR p k c m).1 ≤ 2000 := by
  unfold pbR
  repeat' split
  all_goals simp only [List.length_nil, cellsOf]
  all_goals try omega
  rename_i h
  have h2 := cells_two _ (cells_po p k c (m + 1).toNat 0 [] (fun r hr => by simp at hr))
  omega
theorem pbR_ev (p : Int → Int → Bool) (L : Bool) (k c m : Int) (hp : JuGiven k c → ∀ x y, JuPair x y k c → p x y = (if L = true then !(downR x y k).2.2 else true)) :
    Ev (fun n => (spec_juTask.f k c m).bind fun t => if t = true then ((spec_juUpTo.f n k c m L).bind fun o => if (o.length : Int) > 1000 then some ([], false) else some (o, true)) else some ([], false)) (pbR p k c m) := by
  have hct : ctB k c = decide (JuGiven k c) := by unfold ctB; rw [areConstants_f]; rfl
  have hlk : lkB m = decide (0 ≤ m ∧ m ≤ 200) := by unfold lkB; rw [within_f]; rfl
  unfold pbR spec_juTask.f spec_juUpTo.f
  rw [hct, hlk, juGiven_f, l1In_f]
  simp only [Option.bind_some]
  by_cases hg : JuGiven k c
  · simp only [decide_eq_true hg, if_true]
    by_cases hm : 0 ≤ m ∧ m ≤ 200
    · simp only [decide_eq_true hm, if_true, Option.bind_some]
      have h := pbOut_l p L hg (hp hg) m hm.2 (m + 1).toNat 0 [] (by omega) (by omega) (by simp)
      refine Ev.bind h ?_
      split
      · exact Ev.now _
      · exact Ev.now _
    · simp only [decide_eq_false hm, Bool.false_eq_true, if_false, Option.bind_some]
      exact Ev.now _
  · simp only [decide_eq_false hg, Bool.false_eq_true, if_false, Option.bind_some]
    exact Ev.now _

end Go.Proofs.Ytgigkjcfnngdmaa.P
