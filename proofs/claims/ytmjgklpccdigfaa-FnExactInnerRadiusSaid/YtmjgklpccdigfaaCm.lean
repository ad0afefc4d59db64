import Derived.Test.YtmjgklpccdigfaaP1
import Derived.Test.YtmjgklpccdigfaaP2
import Derived.Test.YtmjgklpccdigfaaP4
import Derived.Test.YtmjgklpccdigfaaP6
namespace Go.Proofs.Ytmjgklpccdigfaa.P
open Go.RowKit Go.Proofs.YtmjgklpccdigfaaW.PrintWords Go.Proofs.YtmjgklpccdigfaaW.PrintLast Go.Proofs.YtmjgklpccdigfaaW.PrintMore
/-! Common small facts on the printed functions. -/
theorem wrap_id {x : Int} (h0 : -9223372036854775808 ≤ x) (h1 : x ≤ 9223372036854775807) : wrap64 x = x := by unfold wrap64; omega
theorem mulb {a b A B : Int} (h0 : 0 ≤ a) (h1 : a ≤ A) (h2 : 0 ≤ b) (h3 : b ≤ B) : 0 ≤ a * b ∧ a * b ≤ A * B :=
  ⟨Int.mul_nonneg h0 h2, Int.mul_le_mul h1 h3 h2 (by omega)⟩
theorem l1In_f (x lo hi : Int) : spec_l1In.f x lo hi = some (inB lo hi x) := by
  unfold spec_l1In.f inB
  by_cases h : x ≥ lo
  · rw [if_pos h]; simp [show lo ≤ x from h]
  · rw [if_neg h]; simp [show ¬ lo ≤ x from h]
theorem inB_iff {lo hi x : Int} : inB lo hi x = true ↔ lo ≤ x ∧ x ≤ hi := by simp [inB]
theorem inB_of {lo hi x : Int} (h : lo ≤ x ∧ x ≤ hi) : inB lo hi x = true := inB_iff.2 h
theorem inB_not {lo hi x : Int} (h : ¬ (lo ≤ x ∧ x ≤ hi)) : inB lo hi x = false := by
  cases e : inB lo hi x with
  | false => rfl
  | true => exact absurd (inB_iff.1 e) h
theorem Ev.all {α : Type} {f : Option α} {r : α} (h : f = some r) : Ev (fun _ => f) r := ⟨0, fun _ _ => h⟩
theorem Ev.from {α : Type} {g : Nat → Option α} {r : α} (K : Nat) (h : ∀ k, K < k → g k = some r) : Ev g r := ⟨K + 1, fun k hk => h k (by omega)⟩
theorem toIntS_l (d : Nat) : ∀ (i k : Nat) (l x : List Int), i + d = l.length → x.length = l.length → x.take i = l.take i → d < k → (l.length : Int) ≤ 9223372036854775806 → laws_toIntS.l0 k l x (i : Int) = some l := by
  induction d with
  | zero =>
    intro i k l x hi hx ht hk hl
    obtain ⟨k, rfl⟩ : ∃ m, k = m + 1 := ⟨k - 1, by omega⟩
    simp only [laws_toIntS.l0]
    rw [if_neg (by omega)]
    rw [List.take_of_length_le (by omega), List.take_of_length_le (by omega)] at ht
    rw [ht]
  | succ d ih =>
    intro i k l x hi hx ht hk hl
    obtain ⟨k, rfl⟩ : ∃ m, k = m + 1 := ⟨k - 1, by omega⟩
    simp only [laws_toIntS.l0]
    rw [if_pos (by omega), if_pos (by omega), if_pos (by omega), wrap_in (by omega) (by omega)]
    have hr : rd l (i : Int) = l[i]'(by omega) := rd_at (by omega)
    have := ih (i + 1) k l (x.set i (rd l (i : Int))) (by omega) (by simpa using hx) ?_ (by omega) hl
    · simp only [Int.toNat_natCast]
      rw [show ((i : Int) + 1) = ((i + 1 : Nat) : Int) by omega]
      exact this
    · rw [List.take_succ_eq_append_getElem (by simp; omega), List.take_succ_eq_append_getElem (by omega), List.take_set, List.set_eq_of_length_le (by simp; omega), ht]
      simp [hr]
theorem toIntS_f (l : List Int) (hl : l.length ≤ 35184372088832) (k : Nat) (hk : l.length < k) : laws_toIntS.f k l = some l := by
  unfold laws_toIntS.f
  rw [if_pos (by omega), if_pos (by omega)]
  exact toIntS_l l.length 0 k l _ (by omega) (by simp) (by simp) hk (by omega)
theorem toIntS_ev (l : List Int) (hl : l.length ≤ 35184372088832) : Ev (fun k => laws_toIntS.f k l) l := Ev.from l.length (fun k hk => toIntS_f l hl k hk)
theorem eqIntS_ev (l : List Int) (hl : (l.length : Int) ≤ 9223372036854775806) : Ev (fun k => laws_eqIntS.f k l l) true := Ev.from l.length (fun k hk => eqIntS_refl l hl k hk)
theorem l1All_l (lo hi : Int) (l : List Int) (hl : (l.length : Int) ≤ 9223372036854775806) (d : Nat) : ∀ (i k : Nat), i + d = l.length → d < k → spec_l1All.l0 k lo hi l (l.length : Int) (i : Int) = some ((l.drop i).all (inB lo hi)) := by
  induction d with
  | zero =>
    intro i k hi' hk
    obtain ⟨k, rfl⟩ : ∃ m, k = m + 1 := ⟨k - 1, by omega⟩
    simp only [spec_l1All.l0]
    rw [if_neg (by omega), List.drop_of_length_le (by omega)]
    rfl
  | succ d ih =>
    intro i k hi' hk
    obtain ⟨k, rfl⟩ : ∃ m, k = m + 1 := ⟨k - 1, by omega⟩
    have hil : i < l.length := by omega
    simp only [spec_l1All.l0]
    rw [if_pos (by omega), if_pos (by omega), if_pos (by omega), l1In_f, rd_at hil, wrap_in (by omega) (by omega)]
    simp only [Option.bind_some]
    rw [List.drop_eq_getElem_cons hil, List.all_cons]
    cases inB lo hi l[i] with
    | false => simp
    | true =>
      simp only [if_true, Bool.true_and]
      exact ih (i + 1) k (by omega) (by omega)
theorem l1All_ev (lo hi : Int) (l : List Int) (hl : (l.length : Int) ≤ 9223372036854775806) : Ev (fun k => spec_l1All.f k l lo hi) (l.all (inB lo hi)) :=
  Ev.from l.length (fun k hk => by
    have := l1All_l lo hi l hl l.length 0 k (by omega) hk
    simpa [spec_l1All.f] using this)
theorem tmod_nat (a b : Nat) : Int.tmod (a : Int) (b : Int) = ((a % b : Nat) : Int) := by
  rw [Int.tmod_eq_emod_of_nonneg (by omega)]
  norm_cast
theorem foGcd_ev (b : Nat) : ∀ a : Nat, (a : Int) ≤ 9223372036854775807 → (b : Int) ≤ 9223372036854775807 → Ev (fun k => spec_foGcd.f k (a : Int) (b : Int)) ((Nat.gcd a b : Nat) : Int) := by
  induction b using Nat.strongRecOn with
  | _ b ih =>
    intro a ha hb
    rcases Nat.eq_zero_or_pos b with h0 | h0
    · subst h0
      refine Ev.step (f := fun _ => some (a : Int)) (fun k => ?_) (by rw [Nat.gcd_zero_right]; exact Ev.now _)
      simp only [spec_foGcd.f]
      rw [if_pos (show ((0 : Nat) : Int) = 0 from rfl)]
      unfold spec_l1Abs.f spec_l1Most.f
      rw [wrap_id (by omega) (by omega)]
      by_cases h : (a : Int) > -(a : Int)
      · rw [if_pos h]; rfl
      · rw [if_neg h, show -(a : Int) = (a : Int) by omega]; rfl
    · have hlt : a % b < b := Nat.mod_lt _ h0
      have := ih (a % b) hlt b hb (by omega)
      refine Ev.step (f := fun k => (spec_foGcd.f k (b : Int) ((a % b : Nat) : Int)).bind fun t => some t) (fun k => ?_) ?_
      · simp only [spec_foGcd.f]
        rw [if_neg (by omega), tmod_nat]
      · rw [Nat.gcd_comm a b, Nat.gcd_rec b a, Nat.gcd_comm (a % b) b]
        exact Ev.bind this (Ev.now _)
theorem divisor_ev (b : Nat) : ∀ a : Nat, (a : Int) ≤ 9223372036854775807 → (b : Int) ≤ 9223372036854775807 → Ev (fun k => impl_divisor.f k (a : Int) (b : Int)) ((Nat.gcd a b : Nat) : Int) := by
  induction b using Nat.strongRecOn with
  | _ b ih =>
    intro a ha hb
    unfold impl_divisor.f at ih ⊢
    rcases Nat.eq_zero_or_pos b with h0 | h0
    · subst h0
      refine Ev.step (f := fun _ => some (a : Int)) (fun k => ?_) (by rw [Nat.gcd_zero_right]; exact Ev.now _)
      simp only [impl_divisor.l0]
      rw [if_pos (show ((0 : Nat) : Int) = 0 from rfl), wrap_id (by omega) (by omega)]
      unfold mx
      by_cases h : (a : Int) < -(a : Int)
      · rw [if_pos h, show -(a : Int) = (a : Int) by omega]
      · rw [if_neg h]
    · have hlt : a % b < b := Nat.mod_lt _ h0
      have := ih (a % b) hlt b hb (by omega)
      refine Ev.step (f := fun k => impl_divisor.l0 k (b : Int) ((a % b : Nat) : Int)) (fun k => ?_) ?_
      · simp only [impl_divisor.l0]
        rw [if_neg (by omega), tmod_nat]
      · rw [Nat.gcd_comm a b, Nat.gcd_rec b a, Nat.gcd_comm (a % b) b]
        exact this
/-- r is the greatest number whose square is at most x. -/
def IsRoot (x r : Int) : Prop := 0 ≤ r ∧ r * r ≤ x ∧ x < (r + 1) * (r + 1)
theorem sq_lt {a b : Int} (h0 : 0 ≤ a) (h : a * a < b * b) (hb : 0 ≤ b) : a < b := by
  rcases Int.lt_or_le a b with h1 | h1
  · exact h1
  · have := Int.mul_le_mul h1 h1 hb h0; omega
theorem IsRoot.uniq {x r s : Int} (h : IsRoot x r) (k : IsRoot x s) : r = s := by
  obtain ⟨h1, h2, h3⟩ := h
  obtain ⟨k1, k2, k3⟩ := k
  have a := sq_lt h1 (show r * r < (s + 1) * (s + 1) by omega) (by omega)
  have b := sq_lt k1 (show s * s < (r + 1) * (r + 1) by omega) (by omega)
  omega
theorem isRoot_sq {m : Int} (h : 0 ≤ m) : IsRoot (m * m) m := ⟨h, Int.le_refl _, by rw [Int.add_mul, Int.mul_add]; omega⟩
theorem foRoot_l (x : Int) (d : Nat) : ∀ (lo hi : Int), 0 ≤ lo → lo < hi → hi ≤ 1000000001 → hi - lo ≤ d → lo * lo ≤ x → x < hi * hi → ∃ r, IsRoot x r ∧ r < 1000000001 ∧ ∀ k, d < k → spec_foRoot.l0 k x lo hi = some r := by
  induction d with
  | zero => intro lo hi h0 h1 h2 h3 _ _; omega
  | succ d ih =>
    intro lo hi h0 h1 h2 h3 h4 h5
    by_cases hc : hi - lo > 1
    · have hm : (wrap64 (Int.tdiv (wrap64 (lo + hi)) 2)) = (lo + hi) / 2 := by
        rw [wrap_id (x := lo + hi) (by omega) (by omega), Int.tdiv_eq_ediv_of_nonneg (by omega), wrap_id (by omega) (by omega)]
      have hmm := mulb (show 0 ≤ (lo + hi) / 2 by omega) (show (lo + hi) / 2 ≤ 1000000001 by omega) (show 0 ≤ (lo + hi) / 2 by omega) (show (lo + hi) / 2 ≤ 1000000001 by omega)
      by_cases hx : (lo + hi) / 2 * ((lo + hi) / 2) ≤ x
      · obtain ⟨r, hr, hr2, hk⟩ := ih ((lo + hi) / 2) hi (by omega) (by omega) h2 (by omega) hx h5
        refine ⟨r, hr, hr2, fun k hk' => ?_⟩
        obtain ⟨k, rfl⟩ : ∃ m, k = m + 1 := ⟨k - 1, by omega⟩
        simp only [spec_foRoot.l0]
        rw [hm, wrap_id (x := hi - lo) (by omega) (by omega), wrap_id (x := (lo + hi) / 2 * ((lo + hi) / 2)) (by omega) (by omega), if_pos hc, if_pos hx]
        exact hk k (by omega)
      · obtain ⟨r, hr, hr2, hk⟩ := ih lo ((lo + hi) / 2) h0 (by omega) (by omega) (by omega) h4 (by omega)
        refine ⟨r, hr, hr2, fun k hk' => ?_⟩
        obtain ⟨k, rfl⟩ : ∃ m, k = m + 1 := ⟨k - 1, by omega⟩
        simp only [spec_foRoot.l0]
        rw [hm, wrap_id (x := hi - lo) (by omega) (by omega), wrap_id (x := (lo + hi) / 2 * ((lo + hi) / 2)) (by omega) (by omega), if_pos hc, if_neg hx]
        exact hk k (by omega)
    · have he : hi = lo + 1 := by omega
      subst he
      refine ⟨lo, ⟨h0, h4, h5⟩, by omega, fun k hk' => ?_⟩
      obtain ⟨k, rfl⟩ : ∃ m, k = m + 1 := ⟨k - 1, by omega⟩
      simp only [spec_foRoot.l0]
      rw [wrap_id (x := lo + 1 - lo) (by omega) (by omega), if_neg hc]
theorem foRoot_ev {x : Int} (h0 : 0 ≤ x) (h1 : x ≤ 1000000000000000000) : ∃ r, IsRoot x r ∧ Ev (fun k => spec_foRoot.f k x) r := by
  obtain ⟨r, hr, _, hk⟩ := foRoot_l x 1000000001 0 1000000001 (by omega) (by omega) (by omega) (by omega) (by omega) (by omega)
  exact ⟨r, hr, Ev.from 1000000001 hk⟩
theorem root_l (x : Int) (d : Nat) : ∀ (lo hi : Int), 0 ≤ lo → lo ≤ hi → hi ≤ 2000000000 → hi - lo ≤ d → lo * lo ≤ x → x < (hi + 1) * (hi + 1) → ∃ r, IsRoot x r ∧ ∀ k, d < k → impl_root.l0 k x lo hi = some r := by
  induction d with
  | zero =>
    intro lo hi h0 h1 h2 h3 h4 h5
    have he : hi = lo := by omega
    subst he
    refine ⟨hi, ⟨h0, h4, h5⟩, fun k hk' => ?_⟩
    obtain ⟨k, rfl⟩ : ∃ m, k = m + 1 := ⟨k - 1, by omega⟩
    simp only [impl_root.l0]
    rw [if_neg (by omega)]
  | succ d ih =>
    intro lo hi h0 h1 h2 h3 h4 h5
    by_cases hc : lo < hi
    · have hm : (wrap64 (Int.tdiv (wrap64 ((wrap64 (lo + hi)) + 1)) 2)) = (lo + hi + 1) / 2 := by
        rw [wrap_id (x := lo + hi) (by omega) (by omega), wrap_id (x := lo + hi + 1) (by omega) (by omega), Int.tdiv_eq_ediv_of_nonneg (by omega), wrap_id (by omega) (by omega)]
      have hmm := mulb (show 0 ≤ (lo + hi + 1) / 2 by omega) (show (lo + hi + 1) / 2 ≤ 2000000000 by omega) (show 0 ≤ (lo + hi + 1) / 2 by omega) (show (lo + hi + 1) / 2 ≤ 2000000000 by omega)
      by_cases hx : (lo + hi + 1) / 2 * ((lo + hi + 1) / 2) ≤ x
      · obtain ⟨r, hr, hk⟩ := ih ((lo + hi + 1) / 2) hi (by omega) (by omega) h2 (by omega) hx h5
        refine ⟨r, hr, fun k hk' => ?_⟩
        obtain ⟨k, rfl⟩ : ∃ m, k = m + 1 := ⟨k - 1, by omega⟩
        simp only [impl_root.l0]
        rw [hm, wrap_id (x := (lo + hi + 1) / 2 * ((lo + hi + 1) / 2)) (by omega) (by omega), if_pos hc, if_pos hx]
        exact hk k (by omega)
      · obtain ⟨r, hr, hk⟩ := ih lo ((lo + hi + 1) / 2 - 1) h0 (by omega) (by omega) (by omega) h4 (by rw [show (lo + hi + 1) / 2 - 1 + 1 = (lo + hi + 1) / 2 by omega]; omega)
        refine ⟨r, hr, fun k hk' => ?_⟩
        obtain ⟨k, rfl⟩ : ∃ m, k = m + 1 := ⟨k - 1, by omega⟩
        simp only [impl_root.l0]
        rw [hm, wrap_id (x := (lo + hi + 1) / 2 * ((lo + hi + 1) / 2)) (by omega) (by omega), wrap_id (x := (lo + hi + 1) / 2 - 1) (by omega) (by omega), if_pos hc, if_neg hx]
        exact hk k (by omega)
    · have he : hi = lo := by omega
      subst he
      refine ⟨hi, ⟨h0, h4, h5⟩, fun k hk' => ?_⟩
      obtain ⟨k, rfl⟩ : ∃ m, k = m + 1 := ⟨k - 1, by omega⟩
      simp only [impl_root.l0]
      rw [if_neg hc]
theorem root_ev {x : Int} (h0 : 0 ≤ x) (h1 : x ≤ 4000000000000000000) : ∃ r, IsRoot x r ∧ Ev (fun k => impl_root.f k x) r := by
  obtain ⟨r, hr, hk⟩ := root_l x 2000000000 0 2000000000 (by omega) (by omega) (by omega) (by omega) (by omega) (by omega)
  exact ⟨r, hr, Ev.from 2000000000 hk⟩

end Go.Proofs.Ytmjgklpccdigfaa.P
