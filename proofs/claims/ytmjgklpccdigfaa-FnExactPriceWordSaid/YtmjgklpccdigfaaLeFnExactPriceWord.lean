import Derived.Test.YtmjgklpccdigfaaP1
import Derived.Test.YtmjgklpccdigfaaP2
import Derived.Test.YtmjgklpccdigfaaP3
import Derived.Test.YtmjgklpccdigfaaP4
import Derived.Test.YtmjgklpccdigfaaP5
import Derived.Test.YtmjgklpccdigfaaP6
import Derived.Test.YtmjgklpccdigfaaP7
import Derived.Test.YtmjgklpccdigfaaP8
import Derived.Test.YtmjgklpccdigfaaP11
import Derived.Test.YtmjgklpccdigfaaP12
import Derived.Test.YtmjgklpccdigfaaP16
import Derived.Test.YtmjgklpccdigfaaP17
import Derived.Test.YtmjgklpccdigfaaP20
import Derived.Test.YtmjgklpccdigfaaP26
import Derived.Test.YtmjgklpccdigfaaP34
import Derived.Test.YtmjgklpccdigfaaP35
import Derived.Test.YtmjgklpccdigfaaP38
namespace Go.Proofs.Ytmjgklpccdigfaa.P
open Go.RowKit Go.Proofs.YtmjgklpccdigfaaW.PrintWords Go.Proofs.YtmjgklpccdigfaaW.PrintLast Go.Proofs.YtmjgklpccdigfaaW.PrintMore
theorem wrap_id {x : Int} (h0 : -9223372036854775808 ≤ x) (h1 : x ≤ 9223372036854775807) : wrap64 x = x := by unfold wrap64; omega
theorem rdi_at {l : List Int} {i : Nat} (h : i < l.length) : rd l (i : Int) = l[i] := by simp [rd, List.getD_eq_getElem?_getD, List.getElem?_eq_getElem h]
theorem mulb {a b A B : Int} (h0 : 0 ≤ a) (h1 : a ≤ A) (h2 : 0 ≤ b) (h3 : b ≤ B) : 0 ≤ a * b ∧ a * b ≤ A * B :=
  ⟨Int.mul_nonneg h0 h2, Int.mul_le_mul h1 h3 h2 (by omega)⟩
theorem l1In_f (x lo hi : Int) : spec_l1In.f x lo hi = some (inB lo hi x) := by
  unfold spec_l1In.f inB
  by_cases h : x ≥ lo
  · rw [if_pos h]; simp [show lo ≤ x from h]
  · rw [if_neg h]; simp [show ¬ lo ≤ x from h]
theorem inB_iff {lo hi x : Int} : inB lo hi x = true ↔ lo ≤ x ∧ x ≤ hi := by simp [inB]
theorem inB_of {lo hi x : Int} (h : lo ≤ x ∧ x ≤ hi) : inB lo hi x = true := inB_iff.2 h
theorem inB_not {lo hi x : Int} (h : ¬ (lo ≤ x ∧ x ≤ hi)) : inB lo hi x = false := by
  cases e : inB lo hi x with
  | false => rfl
  | true => exact absurd (inB_iff.1 e) h
theorem Ev.all {α : Type} {f : Option α} {r : α} (h : f = some r) : Ev (fun _ => f) r := ⟨0, fun _ _ => h⟩
theorem Ev.from {α : Type} {g : Nat → Option α} {r : α} (K : Nat) (h : ∀ k, K < k → g k = some r) : Ev g r := ⟨K + 1, fun k hk => h k (by omega)⟩
theorem toIntS_l (d : Nat) : ∀ (i k : Nat) (l x : List Int), i + d = l.length → x.length = l.length → x.take i = l.take i → d < k → (l.length : Int) ≤ 9223372036854775806 → laws_toIntS.l0 k l x (i : Int) = some l := by
  induction d with
  | zero =>
    intro i k l x hi hx ht hk hl
    obtain ⟨k, rfl⟩ : ∃ m, k = m + 1 := ⟨k - 1, by omega⟩
    simp only [laws_toIntS.l0]
    rw [if_neg (by omega)]
    rw [List.take_of_length_le (by omega), List.take_of_length_le (by omega)] at ht
    rw [ht]
  | succ d ih =>
    intro i k l x hi hx ht hk hl
    obtain ⟨k, rfl⟩ : ∃ m, k = m + 1 := ⟨k - 1, by omega⟩
    simp only [laws_toIntS.l0]
    rw [if_pos (by omega), if_pos (by omega), if_pos (by omega), wrap_id (by omega) (by omega)]
    have hr : rd l (i : Int) = l[i]'(by omega) := rdi_at (by omega)
    have := ih (i + 1) k l (x.set i (rd l (i : Int))) (by omega) (by simpa using hx) ?_ (by omega) hl
    · simp only [Int.toNat_natCast]
      rw [show ((i : Int) + 1) = ((i + 1 : Nat) : Int) by omega]
      exact this
    · rw [List.take_succ_eq_append_getElem (by simp; omega), List.take_succ_eq_append_getElem (by omega), List.take_set, List.set_eq_of_length_le (by simp; omega), ht]
      simp [hr]
theorem toIntS_f (l : List Int) (hl : l.length ≤ 35184372088832) (k : Nat) (hk : l.length < k) : laws_toIntS.f k l = some l := by
  unfold laws_toIntS.f
  rw [if_pos (by omega), if_pos (by omega)]
  exact toIntS_l l.length 0 k l _ (by omega) (by simp) (by simp) hk (by omega)
theorem toIntS_ev (l : List Int) (hl : l.length ≤ 35184372088832) : Ev (fun k => laws_toIntS.f k l) l := Ev.from l.length (fun k hk => toIntS_f l hl k hk)
theorem eqIntS_ev (l : List Int) (hl : (l.length : Int) ≤ 9223372036854775806) : Ev (fun k => laws_eqIntS.f k l l) true := Ev.from l.length (fun k hk => eqIntS_refl l hl k hk)

theorem l1All_l (lo hi : Int) (l : List Int) (hl : (l.length : Int) ≤ 9223372036854775806) (d : Nat) : ∀ (i k : Nat), i + d = l.length → d < k → spec_l1All.l0 k lo hi l (l.length : Int) (i : Int) = some ((l.drop i).all (inB lo hi)) := by
  induction d with
  | zero =>
    intro i k hi' hk
    obtain ⟨k, rfl⟩ : ∃ m, k = m + 1 := ⟨k - 1, by omega⟩
    simp only [spec_l1All.l0]
    rw [if_neg (by omega), List.drop_of_length_le (by omega)]
    rfl
  | succ d ih =>
    intro i k hi' hk
    obtain ⟨k, rfl⟩ : ∃ m, k = m + 1 := ⟨k - 1, by omega⟩
    have hil : i < l.length := by omega
    simp only [spec_l1All.l0]
    rw [if_pos (by omega), if_pos (by omega), if_pos (by omega), l1In_f, rdi_at hil, wrap_id (by omega) (by omega)]
    simp only [Option.bind_some]
    rw [List.drop_eq_getElem_cons hil, List.all_cons]
    cases inB lo hi l[i] with
    | false => simp
    | true =>
      simp only [if_true, Bool.true_and]
      exact ih (i + 1) k (by omega) (by omega)
theorem l1All_ev (lo hi : Int) (l : List Int) (hl : (l.length : Int) ≤ 9223372036854775806) : Ev (fun k => spec_l1All.f k l lo hi) (l.all (inB lo hi)) :=
  Ev.from l.length (fun k hk => by
    have := l1All_l lo hi l hl l.length 0 k (by omega) hk
    simpa [spec_l1All.f] using this)

theorem tmod_nat (a b : Nat) : Int.tmod (a : Int) (b : Int) = ((a % b : Nat) : Int) := by
  rw [Int.tmod_eq_emod_of_nonneg (by omega)]
  norm_cast
theorem foGcd_ev (b : Nat) : ∀ a : Nat, (a : Int) ≤ 9223372036854775807 → (b : Int) ≤ 9223372036854775807 → Ev (fun k => spec_foGcd.f k (a : Int) (b : Int)) ((Nat.gcd a b : Nat) : Int) := by
  induction b using Nat.strongRecOn with
  | _ b ih =>
    intro a ha hb
    rcases Nat.eq_zero_or_pos b with h0 | h0
    · subst h0
      refine Ev.step (f := fun _ => some (a : Int)) (fun k => ?_) (by rw [Nat.gcd_zero_right]; exact Ev.now _)
      simp only [spec_foGcd.f]
      rw [if_pos (show ((0 : Nat) : Int) = 0 from rfl)]
      unfold spec_l1Abs.f spec_l1Most.f
      rw [wrap_id (by omega) (by omega)]
      by_cases h : (a : Int) > -(a : Int)
      · rw [if_pos h]; rfl
      · rw [if_neg h, show -(a : Int) = (a : Int) by omega]; rfl
    · have hlt : a % b < b := Nat.mod_lt _ h0
      have := ih (a % b) hlt b hb (by omega)
      refine Ev.step (f := fun k => (spec_foGcd.f k (b : Int) ((a % b : Nat) : Int)).bind fun t => some t) (fun k => ?_) ?_
      · simp only [spec_foGcd.f]
        rw [if_neg (by omega), tmod_nat]
      · rw [Nat.gcd_comm a b, Nat.gcd_rec b a, Nat.gcd_comm (a % b) b]
        exact Ev.bind this (Ev.now _)
theorem divisor_ev (b : Nat) : ∀ a : Nat, (a : Int) ≤ 9223372036854775807 → (b : Int) ≤ 9223372036854775807 → Ev (fun k => impl_divisor.f k (a : Int) (b : Int)) ((Nat.gcd a b : Nat) : Int) := by
  induction b using Nat.strongRecOn with
  | _ b ih =>
    intro a ha hb
    unfold impl_divisor.f at ih ⊢
    rcases Nat.eq_zero_or_pos b with h0 | h0
    · subst h0
      refine Ev.step (f := fun _ => some (a : Int)) (fun k => ?_) (by rw [Nat.gcd_zero_right]; exact Ev.now _)
      simp only [impl_divisor.l0]
      rw [if_pos (show ((0 : Nat) : Int) = 0 from rfl), wrap_id (by omega) (by omega)]
      unfold mx
      by_cases h : (a : Int) < -(a : Int)
      · rw [if_pos h, show -(a : Int) = (a : Int) by omega]
      · rw [if_neg h]
    · have hlt : a % b < b := Nat.mod_lt _ h0
      have := ih (a % b) hlt b hb (by omega)
      refine Ev.step (f := fun k => impl_divisor.l0 k (b : Int) ((a % b : Nat) : Int)) (fun k => ?_) ?_
      · simp only [impl_divisor.l0]
        rw [if_neg (by omega), tmod_nat]
      · rw [Nat.gcd_comm a b, Nat.gcd_rec b a, Nat.gcd_comm (a % b) b]
        exact this

/-- r is the greatest number whose square is at most x. -/
def IsRoot (x r : Int) : Prop := 0 ≤ r ∧ r * r ≤ x ∧ x < (r + 1) * (r + 1)
theorem sq_lt {a b : Int} (h0 : 0 ≤ a) (h : a * a < b * b) (hb : 0 ≤ b) : a < b := by
  rcases Int.lt_or_le a b with h1 | h1
  · exact h1
  · have := Int.mul_le_mul h1 h1 hb h0; omega
theorem IsRoot.uniq {x r s : Int} (h : IsRoot x r) (k : IsRoot x s) : r = s := by
  obtain ⟨h1, h2, h3⟩ := h
  obtain ⟨k1, k2, k3⟩ := k
  have a := sq_lt h1 (show r * r < (s + 1) * (s + 1) by omega) (by omega)
  have b := sq_lt k1 (show s * s < (r + 1) * (r + 1) by omega) (by omega)
  omega
theorem isRoot_sq {m : Int} (h : 0 ≤ m) : IsRoot (m * m) m := ⟨h, Int.le_refl _, by rw [Int.add_mul, Int.mul_add]; omega⟩
theorem foRoot_l (x : Int) (d : Nat) : ∀ (lo hi : Int), 0 ≤ lo → lo < hi → hi ≤ 1000000001 → hi - lo ≤ d → lo * lo ≤ x → x < hi * hi → ∃ r, IsRoot x r ∧ r < 1000000001 ∧ ∀ k, d < k → spec_foRoot.l0 k x lo hi = some r := by
  induction d with
  | zero => intro lo hi h0 h1 h2 h3 _ _; omega
  | succ d ih =>
    intro lo hi h0 h1 h2 h3 h4 h5
    by_cases hc : hi - lo > 1
    · have hm : (wrap64 (Int.tdiv (wrap64 (lo + hi)) 2)) = (lo + hi) / 2 := by
        rw [wrap_id (x := lo + hi) (by omega) (by omega), Int.tdiv_eq_ediv_of_nonneg (by omega), wrap_id (by omega) (by omega)]
      have hmm := mulb (show 0 ≤ (lo + hi) / 2 by omega) (show (lo + hi) / 2 ≤ 1000000001 by omega) (show 0 ≤ (lo + hi) / 2 by omega) (show (lo + hi) / 2 ≤ 1000000001 by omega)
      by_cases hx : (lo + hi) / 2 * ((lo + hi) / 2) ≤ x
      · obtain ⟨r, hr, hr2, hk⟩ := ih ((lo + hi) / 2) hi (by omega) (by omega) h2 (by omega) hx h5
        refine ⟨r, hr, hr2, fun k hk' => ?_⟩
        obtain ⟨k, rfl⟩ : ∃ m, k = m + 1 := ⟨k - 1, by omega⟩
        simp only [spec_foRoot.l0]
        rw [hm, wrap_id (x := hi - lo) (by omega) (by omega), wrap_id (x := (lo + hi) / 2 * ((lo + hi) / 2)) (by omega) (by omega), if_pos hc, if_pos hx]
        exact hk k (by omega)
      · obtain ⟨r, hr, hr2, hk⟩ := ih lo ((lo + hi) / 2) h0 (by omega) (by omega) (by omega) h4 (by omega)
        refine ⟨r, hr, hr2, fun k hk' => ?_⟩
        obtain ⟨k, rfl⟩ : ∃ m, k = m + 1 := ⟨k - 1, by omega⟩
        simp only [spec_foRoot.l0]
        rw [hm, wrap_id (x := hi - lo) (by omega) (by omega), wrap_id (x := (lo + hi) / 2 * ((lo + hi) / 2)) (by omega) (by omega), if_pos hc, if_neg hx]
        exact hk k (by omega)
    · have he : hi = lo + 1 := by omega
      subst he
      refine ⟨lo, ⟨h0, h4, h5⟩, by omega, fun k hk' => ?_⟩
      obtain ⟨k, rfl⟩ : ∃ m, k = m + 1 := ⟨k - 1, by omega⟩
      simp only [spec_foRoot.l0]
      rw [wrap_id (x := lo + 1 - lo) (by omega) (by omega), if_neg hc]
theorem foRoot_ev {x : Int} (h0 : 0 ≤ x) (h1 : x ≤ 1000000000000000000) : ∃ r, IsRoot x r ∧ Ev (fun k => spec_foRoot.f k x) r := by
  obtain ⟨r, hr, _, hk⟩ := foRoot_l x 1000000001 0 1000000001 (by omega) (by omega) (by omega) (by omega) (by omega) (by omega)
  exact ⟨r, hr, Ev.from 1000000001 hk⟩
theorem root_l (x : Int) (d : Nat) : ∀ (lo hi : Int), 0 ≤ lo → lo ≤ hi → hi ≤ 2000000000 → hi - lo ≤ d → lo * lo ≤ x → x < (hi + 1) * (hi + 1) → ∃ r, IsRoot x r ∧ ∀ k, d < k → impl_root.l0 k x lo hi = some r := by
  induction d with
  | zero =>
    intro lo hi h0 h1 h2 h3 h4 h5
    have he : hi = lo := by omega
    subst he
    refine ⟨hi, ⟨h0, h4, h5⟩, fun k hk' => ?_⟩
    obtain ⟨k, rfl⟩ : ∃ m, k = m + 1 := ⟨k - 1, by omega⟩
    simp only [impl_root.l0]
    rw [if_neg (by omega)]
  | succ d ih =>
    intro lo hi h0 h1 h2 h3 h4 h5
    by_cases hc : lo < hi
    · have hm : (wrap64 (Int.tdiv (wrap64 ((wrap64 (lo + hi)) + 1)) 2)) = (lo + hi + 1) / 2 := by
        rw [wrap_id (x := lo + hi) (by omega) (by omega), wrap_id (x := lo + hi + 1) (by omega) (by omega), Int.tdiv_eq_ediv_of_nonneg (by omega), wrap_id (by omega) (by omega)]
      have hmm := mulb (show 0 ≤ (lo + hi + 1) / 2 by omega) (show (lo + hi + 1) / 2 ≤ 2000000000 by omega) (show 0 ≤ (lo + hi + 1) / 2 by omega) (show (lo + hi + 1) / 2 ≤ 2000000000 by omega)
      by_cases hx : (lo + hi + 1) / 2 * ((lo + hi + 1) / 2) ≤ x
      · obtain ⟨r, hr, hk⟩ := ih ((lo + hi + 1) / 2) hi (by omega) (by omega) h2 (by omega) hx h5
        refine ⟨r, hr, fun k hk' => ?_⟩
        obtain ⟨k, rfl⟩ : ∃ m, k = m + 1 := ⟨k - 1, by omega⟩
        simp only [impl_root.l0]
        rw [hm, wrap_id (x := (lo + hi + 1) / 2 * ((lo + hi + 1) / 2)) (by omega) (by omega), if_pos hc, if_pos hx]
        exact hk k (by omega)
      · obtain ⟨r, hr, hk⟩ := ih lo ((lo + hi + 1) / 2 - 1) h0 (by omega) (by omega) (by omega) h4 (by rw [show (lo + hi + 1) / 2 - 1 + 1 = (lo + hi + 1) / 2 by omega]; omega)
        refine ⟨r, hr, fun k hk' => ?_⟩
        obtain ⟨k, rfl⟩ : ∃ m, k = m + 1 := ⟨k - 1, by omega⟩
        simp only [impl_root.l0]
        rw [hm, wrap_id (x := (lo + hi + 1) / 2 * ((lo + hi + 1) / 2)) (by omega) (by omega), wrap_id (x := (lo + hi + 1) / 2 - 1) (by omega) (by omega), if_pos hc, if_neg hx]
        exact hk k (by omega)
    · have he : hi = lo := by omega
      subst he
      refine ⟨hi, ⟨h0, h4, h5⟩, fun k hk' => ?_⟩
      obtain ⟨k, rfl⟩ : ∃ m, k = m + 1 := ⟨k - 1, by omega⟩
      simp only [impl_root.l0]
      rw [if_neg hc]
theorem root_ev {x : Int} (h0 : 0 ≤ x) (h1 : x ≤ 4000000000000000000) : ∃ r, IsRoot x r ∧ Ev (fun k => impl_root.f k x) r := by
  obtain ⟨r, hr, hk⟩ := root_l x 2000000000 0 2000000000 (by omega) (by omega) (by omega) (by omega) (by omega) (by omega)
  exact ⟨r, hr, Ev.from 2000000000 hk⟩

theorem markIntS_ev (l : List Int) (hl : (l.length : Int) ≤ 4611686018427387904) : Ev (fun k => laws_markIntS.f k l 1) (1 + (l.length : Int), mkI 1 l.length) := Ev.from l.length (fun k hk => markIntS_f l 1 k hk (by omega) (by omega) (by omega))
theorem heldIntS_ev (n : Nat) (hn : (n : Int) ≤ 4611686018427387904) : Ev (fun k => laws_heldIntS.f k (mkI 1 n) 1) (1 + (n : Int)) := Ev.from n (fun k hk => heldIntS_f 1 n k hk (by omega) (by omega) (by omega))

theorem nt_sq {a b c : Nat} (h : a * b = c * c) (hc : Nat.Coprime a b) : a = Nat.gcd a c * Nat.gcd a c := by
  have h1 : Nat.gcd (a ^ 2) (c ^ 2) = Nat.gcd a c ^ 2 := Nat.pow_gcd_pow
  rw [Nat.pow_two, Nat.pow_two, Nat.pow_two, ← h, Nat.gcd_mul_left, hc.gcd_eq_one, Nat.mul_one] at h1
  exact h1
theorem nt_sq_inj {a b : Nat} (h : a * a = b * b) : a = b := by
  rcases Nat.lt_trichotomy a b with h1 | h1 | h1
  · have := Nat.mul_lt_mul_of_lt_of_lt h1 h1; omega
  · exact h1
  · have := Nat.mul_lt_mul_of_lt_of_lt h1 h1; omega
theorem nt_dvd_of_sq {d w : Nat} (h : d * d ∣ w * w) : d ∣ w := by
  have h1 : Nat.gcd (d ^ 2) (w ^ 2) = Nat.gcd d w ^ 2 := Nat.pow_gcd_pow
  rw [Nat.pow_two, Nat.pow_two, Nat.pow_two, Nat.gcd_eq_left h] at h1
  have h2 := nt_sq_inj h1
  rw [h2]
  exact Nat.gcd_dvd_right d w
/-- A pair of numbers that makes a right triple. -/
def PairP (m n : Nat) : Prop := 1 ≤ n ∧ n < m ∧ (m + n) % 2 = 1 ∧ Nat.gcd m n = 1
theorem nt_odd_sq {x : Nat} : (x * x) % 2 = x % 2 := by
  rw [Nat.mul_mod]
  rcases Nat.mod_two_eq_zero_or_one x with h | h <;> rw [h]
/-- Each right triple is made of a pair. -/
theorem nt_pair {x y z : Nat} (hx0 : 1 ≤ x) (hy0 : 1 ≤ y) (hx : x % 2 = 1) (hy : y % 2 = 0) (hg : Nat.gcd x y = 1) (h : x * x + y * y = z * z) :
    ∃ m n, PairP m n ∧ (z + x) / 2 = m * m ∧ (z - x) / 2 = n * n ∧ x = m * m - n * n ∧ y = 2 * m * n ∧ z = m * m + n * n := by
  obtain ⟨w, rfl⟩ : ∃ w, y = 2 * w := ⟨y / 2, by omega⟩
  have hz : z % 2 = 1 := by
    have h1 := @nt_odd_sq x
    have h2 := @nt_odd_sq z
    have h3 : (2 * w * (2 * w)) % 2 = 0 := by rw [Nat.mul_assoc]; exact Nat.mul_mod_right 2 _
    omega
  have hzx : x < z := by
    rcases Nat.lt_or_ge x z with h1 | h1
    · exact h1
    · have h2 := Nat.mul_le_mul h1 h1
      have h3 : 0 < 2 * w * (2 * w) := Nat.mul_pos (by omega) (by omega)
      omega
  obtain ⟨u, hu⟩ : ∃ u, z + x = 2 * u := ⟨(z + x) / 2, by omega⟩
  obtain ⟨v, hv⟩ : ∃ v, z - x = 2 * v := ⟨(z - x) / 2, by omega⟩
  have hzuv : z = u + v := by omega
  have hxuv : x + v = u := by omega
  have huv : u * v = w * w := by
    have e1 : z * z = x * x + 4 * (u * v) := by
      rw [hzuv, ← hxuv]
      simp only [Nat.add_mul, Nat.mul_add, Nat.mul_comm, Nat.mul_left_comm]
      omega
    have e2 : 2 * w * (2 * w) = 4 * (w * w) := Nat.mul_mul_mul_comm 2 w 2 w
    omega
  have hcop : Nat.Coprime u v := by
    have hd1 := Nat.gcd_dvd_left u v
    have hd2 := Nat.gcd_dvd_right u v
    have hdx : Nat.gcd u v ∣ x := by
      have := Nat.dvd_sub hd1 hd2
      rwa [show u - v = x by omega] at this
    have hdw : Nat.gcd u v ∣ w := nt_dvd_of_sq (by rw [← huv]; exact Nat.mul_dvd_mul hd1 hd2)
    have hdy : Nat.gcd u v ∣ 2 * w := Nat.dvd_trans hdw (Nat.dvd_mul_left w 2)
    have := Nat.dvd_gcd hdx hdy
    rw [hg] at this
    exact Nat.eq_one_of_dvd_one this
  have hm := nt_sq huv hcop
  have hn := nt_sq ((Nat.mul_comm v u).trans huv) hcop.symm
  generalize Nat.gcd u w = m at hm
  generalize Nat.gcd v w = n at hn
  have hmn : m * n = w := by
    apply nt_sq_inj
    rw [← huv, hm, hn]
    simp only [Nat.mul_comm, Nat.mul_left_comm]
  have hw : 1 ≤ w := by omega
  have hn0 : 1 ≤ n := by
    rcases Nat.eq_zero_or_pos n with h0 | h0
    · rw [h0, Nat.mul_zero] at hmn; omega
    · exact h0
  have hlt : n < m := by
    rcases Nat.lt_or_ge n m with h1 | h1
    · exact h1
    · have := Nat.mul_le_mul h1 h1; omega
  refine ⟨m, n, ⟨hn0, hlt, ?_, ?_⟩, by omega, by omega, by omega, by rw [Nat.mul_assoc, hmn], by omega⟩
  · have h1 := @nt_odd_sq m
    have h2 := @nt_odd_sq n
    omega
  · have h1 : Nat.gcd (m * m) (n * n) = 1 := by rw [← hm, ← hn]; exact hcop
    have h2 : Nat.gcd m n ∣ Nat.gcd (m * m) (n * n) := Nat.dvd_gcd (Nat.dvd_trans (Nat.gcd_dvd_left m n) (Nat.dvd_mul_right m m)) (Nat.dvd_trans (Nat.gcd_dvd_right m n) (Nat.dvd_mul_right n n))
    rw [h1] at h2
    exact Nat.eq_one_of_dvd_one h2
/-- Each pair makes a right triple. -/
theorem nt_right {m n : Nat} (h : PairP m n) : 1 ≤ m * m - n * n ∧ 1 ≤ 2 * m * n ∧ (m * m - n * n) % 2 = 1 ∧ (2 * m * n) % 2 = 0 ∧ Nat.gcd (m * m - n * n) (2 * m * n) = 1 ∧ (m * m - n * n) * (m * m - n * n) + (2 * m * n) * (2 * m * n) = (m * m + n * n) * (m * m + n * n) := by
  obtain ⟨h1, h2, h3, h4⟩ := h
  have hlt : n * n < m * m := Nat.mul_lt_mul_of_lt_of_lt h2 h2
  have hodd : (m * m - n * n) % 2 = 1 := by
    have e1 := @nt_odd_sq m
    have e2 := @nt_odd_sq n
    omega
  have hpos : 1 ≤ 2 * m * n := Nat.mul_pos (by omega) h1
  refine ⟨by omega, hpos, hodd, by rw [Nat.mul_assoc]; exact Nat.mul_mod_right 2 _, ?_, ?_⟩
  · generalize hd : Nat.gcd (m * m - n * n) (2 * m * n) = d
    have hdx : d ∣ m * m - n * n := hd ▸ Nat.gcd_dvd_left _ _
    have hdy : d ∣ 2 * m * n := hd ▸ Nat.gcd_dvd_right _ _
    have hd2 : Nat.Coprime d 2 := by
      have e1 := Nat.gcd_dvd_left d 2
      have e2 := Nat.gcd_dvd_right d 2
      have e3 : Nat.gcd d 2 ∣ m * m - n * n := Nat.dvd_trans e1 hdx
      have e4 := Nat.le_of_dvd (by omega) e2
      have e5 : Nat.gcd d 2 ≠ 2 := by
        intro e
        rw [e] at e3
        omega
      have e6 : Nat.gcd d 2 ≠ 0 := by
        intro e
        rw [e] at e2
        omega
      show Nat.gcd d 2 = 1
      omega
    have hmn : Nat.Coprime m n := h4
    have hdm : Nat.Coprime d m := by
      have e1 := Nat.gcd_dvd_left d m
      have e2 := Nat.gcd_dvd_right d m
      have e3 : Nat.gcd d m ∣ n * n := by
        have := Nat.dvd_sub (Nat.dvd_trans e2 (Nat.dvd_mul_right m m)) (Nat.dvd_trans e1 hdx)
        rwa [show m * m - (m * m - n * n) = n * n by omega] at this
      have e4 : Nat.Coprime m (n * n) := (Nat.Coprime.mul_left hmn.symm hmn.symm).symm
      exact Nat.eq_one_of_dvd_one (e4.gcd_eq_one ▸ Nat.dvd_gcd e2 e3)
    have hdn : Nat.Coprime d n := by
      have e1 := Nat.gcd_dvd_left d n
      have e2 := Nat.gcd_dvd_right d n
      have e3 : Nat.gcd d n ∣ m * m := by
        have := Nat.dvd_add (Nat.dvd_trans e1 hdx) (Nat.dvd_trans e2 (Nat.dvd_mul_right n n))
        rwa [show m * m - n * n + n * n = m * m by omega] at this
      have e4 : Nat.Coprime n (m * m) := (Nat.Coprime.mul_left hmn hmn).symm
      exact Nat.eq_one_of_dvd_one (e4.gcd_eq_one ▸ Nat.dvd_gcd e2 e3)
    have hdy2 := Nat.Coprime.dvd_of_dvd_mul_right hdn hdy
    have hdy3 := Nat.Coprime.dvd_of_dvd_mul_right hdm hdy2
    have := Nat.Coprime.eq_one_of_dvd hd2 hdy3
    exact this
  · obtain ⟨e, he⟩ : ∃ e, m * m = n * n + e := ⟨m * m - n * n, by omega⟩
    have e1 : 2 * m * n * (2 * m * n) = 4 * ((m * m) * (n * n)) := by
      rw [Nat.mul_mul_mul_comm (2 * m) n (2 * m) n, Nat.mul_mul_mul_comm 2 m 2 m, Nat.mul_assoc]
    rw [e1, he, show n * n + e - n * n = e by omega]
    generalize n * n = p
    simp only [Nat.add_mul, Nat.mul_add, Nat.mul_comm, Nat.mul_left_comm]
    omega

theorem riOf_nat (m n : Nat) (hm : m ≤ 100000) (hn : n ≤ 100000) : spec_riOf.f (m : Int) (n : Int) = some [(m : Int) * m - (n : Int) * n, 2 * (m : Int) * n, (m : Int) * m + (n : Int) * n] := by
  have a := mulb (show (0 : Int) ≤ m by omega) (show (m : Int) ≤ 100000 by omega) (show (0 : Int) ≤ m by omega) (show (m : Int) ≤ 100000 by omega)
  have b := mulb (show (0 : Int) ≤ n by omega) (show (n : Int) ≤ 100000 by omega) (show (0 : Int) ≤ n by omega) (show (n : Int) ≤ 100000 by omega)
  have c := mulb (show (0 : Int) ≤ 2 * m by omega) (show 2 * (m : Int) ≤ 200000 by omega) (show (0 : Int) ≤ n by omega) (show (n : Int) ≤ 100000 by omega)
  unfold spec_riOf.f
  rw [wrap_id (x := (m : Int) * m) (by omega) (by omega), wrap_id (x := (n : Int) * n) (by omega) (by omega), wrap_id (x := 2 * (m : Int)) (by omega) (by omega), wrap_id (x := 2 * (m : Int) * n) (by omega) (by omega), wrap_id (x := (m : Int) * m - (n : Int) * n) (by omega) (by omega), wrap_id (x := (m : Int) * m + (n : Int) * n) (by omega) (by omega)]
def tri (m n : Nat) : List Int := [(m : Int) * m - (n : Int) * n, 2 * (m : Int) * n, (m : Int) * m + (n : Int) * n]
def PairOk (m n : Nat) : Prop := PairP m n ∧ m * m + n * n ≤ 1000000000
theorem PairOk.le {m n : Nat} (h : PairOk m n) : m ≤ 31622 ∧ n ≤ 31622 := by
  have h1 : m ≤ 31622 := by
    rcases Nat.lt_or_ge 31622 m with h1 | h1
    · have := Nat.mul_le_mul h1 h1
      have := h.2
      omega
    · exact h1
  have := h.1.2.1
  omega
theorem natSub {m n : Nat} (h : PairP m n) : ((m * m - n * n : Nat) : Int) = (m : Int) * m - (n : Int) * n := by
  have := Nat.mul_lt_mul_of_lt_of_lt h.2.1 h.2.1
  omega
theorem natMul2 (m n : Nat) : ((2 * m * n : Nat) : Int) = 2 * (m : Int) * n := by push_cast; rfl
/-- The test of a pair. -/
theorem riPair_ev (a b : Int) (ha : -9223372036854775807 ≤ a ∧ a ≤ 9223372036854775807) (hb : -9223372036854775807 ≤ b ∧ b ≤ 9223372036854775807) :
    ∃ t, Ev (fun k => spec_riPair.f k a b) t ∧ (t = true ↔ ∃ m n : Nat, a = m ∧ b = n ∧ PairOk m n) := by
  by_cases h1 : 2 ≤ a ∧ a ≤ 31623
  · by_cases h2 : 1 ≤ b ∧ b ≤ a - 1
    · obtain ⟨m, rfl⟩ : ∃ m : Nat, a = m := ⟨a.toNat, by omega⟩
      obtain ⟨n, rfl⟩ : ∃ n : Nat, b = n := ⟨b.toNat, by omega⟩
      have hg := foGcd_ev n m (by omega) (by omega)
      have A := mulb (show (0 : Int) ≤ m by omega) h1.2 (show (0 : Int) ≤ m by omega) h1.2
      have B := mulb (show (0 : Int) ≤ n by omega) (show (n : Int) ≤ 31623 by omega) (show (0 : Int) ≤ n by omega) (show (n : Int) ≤ 31623 by omega)
      have hodd : (Int.tmod (wrap64 ((m : Int) + n)) 2 = 1) ↔ (m + n) % 2 = 1 := by
        rw [wrap_id (by omega) (by omega), Int.tmod_eq_emod_of_nonneg (by omega)]
        omega
      have huniq : (∃ m' n' : Nat, (m : Int) = m' ∧ (n : Int) = n' ∧ PairOk m' n') ↔ PairOk m n := by
        constructor
        · rintro ⟨m', n', e1, e2, h⟩
          rw [show m = m' by omega, show n = n' by omega]
          exact h
        · exact fun h => ⟨m, n, rfl, rfl, h⟩
      rw [huniq]
      by_cases h3 : (m + n) % 2 = 1
      · by_cases h4 : Nat.gcd m n = 1
        · refine ⟨decide (m * m + n * n ≤ 1000000000), ?_, ?_⟩
          · unfold spec_riPair.f
            simp only [l1In_f, Option.bind_some]
            rw [wrap_id (x := (m : Int) - 1) (by omega) (by omega), inB_of h1, inB_of h2]
            simp only [if_true, if_pos (hodd.2 h3)]
            refine Ev.bind hg ?_
            rw [h4, wrap_id (x := (m : Int) * m) (by omega) (by omega), wrap_id (x := (n : Int) * n) (by omega) (by omega), wrap_id (x := (m : Int) * m + (n : Int) * n) (by omega) (by omega)]
            simp only [Int.cast_ofNat_Int, if_true]
            rw [show (decide ((m : Int) * m + (n : Int) * n ≤ 1000000000)) = decide (m * m + n * n ≤ 1000000000) from by
              by_cases g : m * m + n * n ≤ 1000000000
              · rw [decide_eq_true g, decide_eq_true (by omega)]
              · rw [decide_eq_false g, decide_eq_false (by omega)]]
            exact Ev.now _
          · rw [decide_eq_true_iff]
            exact ⟨fun h => ⟨⟨by omega, by omega, h3, h4⟩, h⟩, fun h => h.2⟩
        · refine ⟨false, ?_, ⟨fun h => absurd h (by decide), fun h => absurd h.1.2.2.2 h4⟩⟩
          unfold spec_riPair.f
          simp only [l1In_f, Option.bind_some]
          rw [wrap_id (x := (m : Int) - 1) (by omega) (by omega), inB_of h1, inB_of h2]
          simp only [if_true, if_pos (hodd.2 h3)]
          refine Ev.bind hg ?_
          simp only [if_neg (show ¬ (((Nat.gcd m n : Nat) : Int) = 1) by omega)]
          exact Ev.now _
      · refine ⟨false, ?_, ⟨fun h => absurd h (by decide), fun h => absurd h.1.2.2.1 h3⟩⟩
        unfold spec_riPair.f
        simp only [l1In_f, Option.bind_some]
        rw [wrap_id (x := (m : Int) - 1) (by omega) (by omega), inB_of h1, inB_of h2]
        simp only [if_true, if_neg (fun h => h3 (hodd.1 h))]
        exact Ev.now _
    · refine ⟨false, ?_, ⟨fun h => absurd h (by decide), ?_⟩⟩
      · unfold spec_riPair.f
        simp only [l1In_f, Option.bind_some]
        rw [wrap_id (x := a - 1) (by omega) (by omega), inB_of h1, inB_not h2]
        simp only [if_true, Bool.false_eq_true, if_false]
        exact Ev.now _
      · rintro ⟨m, n, rfl, rfl, h⟩
        have := h.1
        exact absurd ⟨by have := this.1; omega, by have := this.2.1; omega⟩ h2
  · refine ⟨false, ?_, ⟨fun h => absurd h (by decide), ?_⟩⟩
    · unfold spec_riPair.f
      simp only [l1In_f, Option.bind_some]
      rw [inB_not h1]
      simp only [Bool.false_eq_true, if_false]
      exact Ev.now _
    · rintro ⟨m, n, rfl, rfl, h⟩
      have h5 := h.le
      exact absurd ⟨by have := h.1.1; have := h.1.2.1; omega, by omega⟩ h1
def RightL (l : List Int) : Prop := ∃ m n : Nat, PairOk m n ∧ l = tri m n
theorem tri_bounds {m n : Nat} (h : PairOk m n) : (tri m n).all (inB 1 1000000000) = true ∧ (m : Int) * m - (n : Int) * n < (m : Int) * m + (n : Int) * n := by
  have r := nt_right h.1
  have e1 := natSub h.1
  have e2 := natMul2 m n
  have hs := h.2
  have h3 : (2 * m * n) * (2 * m * n) ≤ (m * m + n * n) * (m * m + n * n) := by omega
  have h4 : 2 * m * n ≤ m * m + n * n := by
    rcases Nat.lt_or_ge (m * m + n * n) (2 * m * n) with g | g
    · have := Nat.mul_lt_mul_of_lt_of_lt g g; omega
    · exact g
  have hn : 1 ≤ n * n := Nat.mul_pos h.1.1 h.1.1
  simp only [tri, List.all_cons, List.all_nil, Bool.and_true, Bool.and_eq_true, inB_iff]
  omega
theorem right_iff {x y z : Int} : RightL [x, y, z] ↔ ((1 ≤ x ∧ x ≤ 1000000000) ∧ (1 ≤ y ∧ y ≤ 1000000000) ∧ (1 ≤ z ∧ z ≤ 1000000000)) ∧ x % 2 = 1 ∧ y % 2 = 0 ∧ Nat.gcd x.toNat y.toNat = 1 ∧ x * x + y * y = z * z := by
  constructor
  · rintro ⟨m, n, h, e⟩
    have hb := (tri_bounds h).1
    rw [← e] at hb
    simp only [List.all_cons, List.all_nil, Bool.and_true, Bool.and_eq_true, inB_iff] at hb
    have r := nt_right h.1
    have e1 := natSub h.1
    have e2 := natMul2 m n
    simp only [tri, List.cons.injEq, and_true] at e
    obtain ⟨ex, ey, ez⟩ := e
    refine ⟨hb, by omega, by omega, ?_, ?_⟩
    · rw [show x.toNat = m * m - n * n by omega, show y.toNat = 2 * m * n by omega]
      exact r.2.2.2.2.1
    · have h6 := r.2.2.2.2.2
      have h7 : (((m * m - n * n : Nat) : Int) * ((m * m - n * n : Nat) : Int) + ((2 * m * n : Nat) : Int) * ((2 * m * n : Nat) : Int)) = ((m * m + n * n : Nat) : Int) * ((m * m + n * n : Nat) : Int) := by exact_mod_cast h6
      rw [ex, ey, ez, ← e1, ← e2]
      have e3 : ((m * m + n * n : Nat) : Int) = (m : Int) * m + (n : Int) * n := by push_cast; rfl
      rw [← e3]
      exact h7
  · rintro ⟨⟨hx, hy, hz⟩, hx2, hy2, hg, he⟩
    obtain ⟨a, rfl⟩ : ∃ a : Nat, x = a := ⟨x.toNat, by omega⟩
    obtain ⟨b, rfl⟩ : ∃ b : Nat, y = b := ⟨y.toNat, by omega⟩
    obtain ⟨c, rfl⟩ : ∃ c : Nat, z = c := ⟨z.toNat, by omega⟩
    have he' : a * a + b * b = c * c := by exact_mod_cast he
    simp only [Int.toNat_natCast] at hg
    obtain ⟨m, n, hp, _, _, h1, h2, h3⟩ := nt_pair (by omega) (by omega) (by omega) (by omega) hg he'
    have e1 := natSub hp
    have e2 := natMul2 m n
    refine ⟨m, n, ⟨hp, by omega⟩, ?_⟩
    simp only [tri, List.cons.injEq, and_true]
    refine ⟨by omega, by omega, by omega⟩
theorem three {l : List Int} (h : l.length = 3) : ∃ x y z, l = [x, y, z] := by
  match l, h with
  | [x, y, z], _ => exact ⟨x, y, z, rfl⟩
theorem rd0 (x y z : Int) : rd [x, y, z] 0 = x := Eq.trans rfl rfl
theorem rd1 (x y z : Int) : rd [x, y, z] 1 = y := Eq.trans rfl rfl
theorem rd2 (x y z : Int) : rd [x, y, z] 2 = z := Eq.trans rfl rfl
theorem right_len {l : List Int} (h : RightL l) : l.length = 3 := by
  obtain ⟨m, n, _, rfl⟩ := h
  rfl
/-- The program's test. -/
theorem impl_right (l : List Int) : ∃ t, Ev (fun k => impl_IsRight.f k l) t ∧ (t = true ↔ RightL l) := by
  by_cases hl : l.length = 3
  · obtain ⟨x, y, z, rfl⟩ := three hl
    rw [right_iff]
    unfold impl_IsRight.f impl_allWithin.f
    simp only [rd0, rd1, rd2, Option.bind_some, List.length_cons, List.length_nil]
    by_cases hb : [x, y, z].all (inB 1 1000000000) = true
    · rw [hb]
      simp only [List.all_cons, List.all_nil, Bool.and_true, Bool.and_eq_true, inB_iff] at hb
      obtain ⟨hx, hy, hz⟩ := hb
      rw [Int.tmod_eq_emod_of_nonneg (show 0 ≤ x by omega), Int.tmod_eq_emod_of_nonneg (show 0 ≤ y by omega)]
      by_cases hx2 : x % 2 = 1
      · by_cases hy2 : y % 2 = 0
        · obtain ⟨a, rfl⟩ : ∃ a : Nat, x = a := ⟨x.toNat, by omega⟩
          obtain ⟨b, rfl⟩ : ∃ b : Nat, y = b := ⟨y.toNat, by omega⟩
          have hg := divisor_ev b a (by omega) (by omega)
          have A := mulb (show (0 : Int) ≤ a by omega) hx.2 (show (0 : Int) ≤ a by omega) hx.2
          have B := mulb (show (0 : Int) ≤ b by omega) hy.2 (show (0 : Int) ≤ b by omega) hy.2
          have C := mulb (show (0 : Int) ≤ z by omega) hz.2 (show (0 : Int) ≤ z by omega) hz.2
          by_cases hd : Nat.gcd a b = 1
          · refine ⟨((a : Int) * a + (b : Int) * b == z * z), ?_, ?_⟩
            · simp only [hx2, hy2]
              refine Ev.bind hg ?_
              rw [hd, wrap_id (x := (a : Int) * a) (by omega) (by omega), wrap_id (x := (b : Int) * b) (by omega) (by omega), wrap_id (x := z * z) (by omega) (by omega), wrap_id (x := (a : Int) * a + (b : Int) * b) (by omega) (by omega)]
              exact Ev.now _
            · rw [beq_iff_eq]
              exact ⟨fun h => ⟨⟨hx, hy, hz⟩, hx2, hy2, by simpa using hd, h⟩, fun h => h.2.2.2.2⟩
          · refine ⟨false, ?_, ⟨fun h => absurd h (by decide), fun h => absurd (by simpa using h.2.2.2.1) hd⟩⟩
            simp only [hx2, hy2]
            refine Ev.bind hg ?_
            simp only [if_neg (show ¬ (((Nat.gcd a b : Nat) : Int) = 1) by omega)]
            exact Ev.now _
        · refine ⟨false, ?_, ⟨fun h => absurd h (by decide), fun h => absurd h.2.2.1 hy2⟩⟩
          simp only [hx2, if_neg hy2]
          exact Ev.now _
      · refine ⟨false, ?_, ⟨fun h => absurd h (by decide), fun h => absurd h.2.1 hx2⟩⟩
        simp only [if_neg hx2]
        exact Ev.now _
    · refine ⟨false, ?_, ⟨fun h => absurd h (by decide), fun h => absurd ?_ hb⟩⟩
      · simp only [Bool.eq_false_iff.2 hb]
        exact Ev.now _
      · simp only [List.all_cons, List.all_nil, Bool.and_true, Bool.and_eq_true, inB_iff]
        exact h.1
  · refine ⟨false, ?_, ⟨fun h => absurd h (by decide), fun h => absurd (right_len h) hl⟩⟩
    unfold impl_IsRight.f
    simp only [if_neg (show ¬ ((l.length : Int) = 3) by omega)]
    exact Ev.now _

theorem l1Same_l (l m : List Int) (hlm : l.length = m.length) (hl : (l.length : Int) ≤ 9223372036854775806) (d : Nat) : ∀ (i k : Nat), i + d = l.length → d < k → spec_l1Same.l0 k l m (l.length : Int) (i : Int) = some (decide (l.drop i = m.drop i)) := by
  induction d with
  | zero =>
    intro i k hi' hk
    obtain ⟨k, rfl⟩ : ∃ m, k = m + 1 := ⟨k - 1, by omega⟩
    simp only [spec_l1Same.l0]
    rw [if_neg (by omega), List.drop_of_length_le (by omega), List.drop_of_length_le (by omega)]
    rfl
  | succ d ih =>
    intro i k hi' hk
    obtain ⟨k, rfl⟩ : ∃ m, k = m + 1 := ⟨k - 1, by omega⟩
    have hil : i < l.length := by omega
    have him : i < m.length := by omega
    simp only [spec_l1Same.l0]
    rw [if_pos (by omega), if_pos (by omega), if_pos (by omega), if_pos (by omega)]
    simp only [rdi_at hil, rdi_at him]
    rw [wrap_id (by omega) (by omega), List.drop_eq_getElem_cons hil, List.drop_eq_getElem_cons him]
    by_cases e : l[i] = m[i]
    · rw [if_pos e]
      have := ih (i + 1) k (by omega) (by omega)
      rw [show ((i : Int) + 1) = ((i + 1 : Nat) : Int) by omega, this]
      exact congrArg some (decide_eq_decide.2 (by rw [List.cons.injEq]; exact ⟨fun h => ⟨e, h⟩, fun h => h.2⟩))
    · rw [if_neg e, decide_eq_false (fun h => e (List.cons.inj h).1)]
theorem l1Same_ev (l m : List Int) (hl : (l.length : Int) ≤ 9223372036854775806) : Ev (fun k => spec_l1Same.f k l m) (decide (l = m)) := by
  by_cases h : l.length = m.length
  · refine Ev.from l.length (fun k hk => ?_)
    have := l1Same_l l m h hl l.length 0 k (by omega) hk
    unfold spec_l1Same.f
    rw [if_pos (by omega)]
    simpa using this
  · rw [decide_eq_false (fun e => h (by rw [e]))]
    unfold spec_l1Same.f
    simp only [if_neg (show ¬ ((l.length : Int) = (m.length : Int)) by omega)]
    exact Ev.now _
theorem riBack_ev {x y z : Int} (hx : 1 ≤ x ∧ x ≤ 1000000000) (hz : 1 ≤ z ∧ z ≤ 1000000000) (h : x < z) : ∃ r s, IsRoot ((z + x) / 2) r ∧ IsRoot ((z - x) / 2) s ∧ Ev (fun k => spec_riBack.f k [x, y, z]) (r, s) := by
  obtain ⟨r, hr, er⟩ := foRoot_ev (x := (z + x) / 2) (by omega) (by omega)
  obtain ⟨s, hs, es⟩ := foRoot_ev (x := (z - x) / 2) (by omega) (by omega)
  refine ⟨r, s, hr, hs, ?_⟩
  unfold spec_riBack.f
  simp only [rd0, rd2, List.length_cons, List.length_nil]
  rw [wrap_id (x := z + x) (by omega) (by omega), wrap_id (x := z - x) (by omega) (by omega), Int.tdiv_eq_ediv_of_nonneg (show 0 ≤ z + x by omega), Int.tdiv_eq_ediv_of_nonneg (show 0 ≤ z - x by omega), wrap_id (x := (z + x) / 2) (by omega) (by omega), wrap_id (x := (z - x) / 2) (by omega) (by omega)]
  refine Ev.bind er ?_
  refine Ev.bind es ?_
  exact Ev.now _
theorem pairOf_ev {x y z : Int} (hx : 1 ≤ x ∧ x ≤ 1000000000) (hz : 1 ≤ z ∧ z ≤ 1000000000) (h : x < z) : ∃ r s, IsRoot ((z + x) / 2) r ∧ IsRoot ((z - x) / 2) s ∧ Ev (fun k => impl_pairOf.f k [x, y, z]) (r, s) := by
  obtain ⟨r, hr, er⟩ := root_ev (x := (z + x) / 2) (by omega) (by omega)
  obtain ⟨s, hs, es⟩ := root_ev (x := (z - x) / 2) (by omega) (by omega)
  refine ⟨r, s, hr, hs, ?_⟩
  unfold impl_pairOf.f
  simp only [rd0, rd2, List.length_cons, List.length_nil]
  rw [wrap_id (x := z + x) (by omega) (by omega), wrap_id (x := z - x) (by omega) (by omega), Int.tdiv_eq_ediv_of_nonneg (show 0 ≤ z + x by omega), Int.tdiv_eq_ediv_of_nonneg (show 0 ≤ z - x by omega), wrap_id (x := (z + x) / 2) (by omega) (by omega), wrap_id (x := (z - x) / 2) (by omega) (by omega)]
  refine Ev.bind er ?_
  refine Ev.bind es ?_
  exact Ev.now _
theorem root_small {x r : Int} (h : IsRoot x r) (hx : x ≤ 1000000000) : 0 ≤ r ∧ r ≤ 31622 := by
  obtain ⟨h0, h1, _⟩ := h
  refine ⟨h0, ?_⟩
  rcases Int.lt_or_le 31622 r with g | g
  · have := Int.mul_le_mul (show (31623 : Int) ≤ r by omega) (show (31623 : Int) ≤ r by omega) (by omega) h0
    omega
  · exact g
/-- The reference's test. -/
theorem spec_right (l : List Int) (hl : (l.length : Int) ≤ 9223372036854775806) : ∃ t, Ev (fun k => spec_riGood.f k l) t ∧ (t = true ↔ RightL l) := by
  have j0 : ∀ x, Ev (fun k => spec_riGood.j0 k x true) false := fun x => Ev.from 0 (fun k hk => by
    obtain ⟨k, rfl⟩ : ∃ m, k = m + 1 := ⟨k - 1, by omega⟩
    simp [spec_riGood.j0])
  by_cases h3 : l.length = 3
  · obtain ⟨x, y, z, rfl⟩ := three h3
    have ha := l1All_ev 1 1000000000 [x, y, z] hl
    by_cases hb : [x, y, z].all (inB 1 1000000000) = true
    · rw [hb] at ha
      simp only [List.all_cons, List.all_nil, Bool.and_true, Bool.and_eq_true, inB_iff] at hb
      obtain ⟨hx, hy, hz⟩ := hb
      by_cases hzx : z ≤ x
      · refine ⟨false, ?_, ⟨fun h => absurd h (by decide), ?_⟩⟩
        · unfold spec_riGood.f
          simp only [rd0, rd2, List.length_cons, List.length_nil]
          refine Ev.bind ha ?_
          simp only [if_true, decide_eq_true hzx]
          exact j0 _
        · rintro ⟨m, n, h, e⟩
          have := (tri_bounds h).2
          simp only [tri, List.cons.injEq, and_true] at e
          omega
      · obtain ⟨r, s, hr, hs, hrs⟩ := riBack_ev (y := y) hx hz (by omega)
        have hr' := root_small hr (by omega)
        have hs' := root_small hs (by omega)
        obtain ⟨t, ht, hti⟩ := riPair_ev r s (by omega) (by omega)
        have key : ∀ u, Ev (fun k => if t = true then ((spec_riOf.f r s).bind fun t126 => ((spec_l1Same.f k t126 [x, y, z]).bind fun t129 => (some t129))) else (some false)) u → Ev (fun k => spec_riGood.f k [x, y, z]) u := by
          intro u hu
          unfold spec_riGood.f
          simp only [rd0, rd2, List.length_cons, List.length_nil]
          refine Ev.bind ha ?_
          simp only [if_true, decide_eq_false hzx]
          obtain ⟨K, hK⟩ := Ev.bind (f := fun k bt => ((spec_riPair.f k bt.1 bt.2).bind fun t125 => (if t125 = true then ((spec_riOf.f bt.1 bt.2).bind fun t126 => ((spec_l1Same.f k t126 [x, y, z]).bind fun t129 => (some t129))) else (some false)))) hrs (Ev.bind (f := fun k t => (if t = true then ((spec_riOf.f r s).bind fun t126 => ((spec_l1Same.f k t126 [x, y, z]).bind fun t129 => (some t129))) else (some false))) ht hu)
          refine Ev.from (K + 1) (fun k hk => ?_)
          obtain ⟨k, rfl⟩ : ∃ m, k = m + 1 := ⟨k - 1, by omega⟩
          have := hK k (by omega)
          simpa [spec_riGood.j0] using this
        by_cases htt : t = true
        · obtain ⟨m, n, rfl, rfl, hp⟩ := hti.1 htt
          refine ⟨decide (tri m n = [x, y, z]), key _ ?_, ?_⟩
          · simp only [htt, if_true]
            have := hp.le
            rw [riOf_nat m n (by omega) (by omega)]
            simp only [Option.bind_some]
            exact Ev.bind (l1Same_ev (tri m n) [x, y, z] (by simp [tri])) (Ev.now _)
          · rw [decide_eq_true_iff]
            constructor
            · exact fun e => ⟨m, n, hp, e.symm⟩
            · rintro ⟨m', n', hp', e⟩
              have e' := e
              simp only [tri, List.cons.injEq, and_true] at e
              obtain ⟨ex, ey, ez⟩ := e
              have e1 : (m : Int) = m' := hr.uniq (by
                rw [show (z + x) / 2 = (m' : Int) * m' by omega]
                exact isRoot_sq (by omega))
              have e2 : (n : Int) = n' := hs.uniq (by
                rw [show (z - x) / 2 = (n' : Int) * n' by omega]
                exact isRoot_sq (by omega))
              rw [show m = m' by omega, show n = n' by omega, e']
        · refine ⟨false, key _ ?_, ⟨fun h => absurd h (by decide), ?_⟩⟩
          · simp only [if_neg htt]
            exact Ev.now _
          · rintro ⟨m', n', hp', e⟩
            simp only [tri, List.cons.injEq, and_true] at e
            obtain ⟨ex, ey, ez⟩ := e
            have e1 : r = m' := hr.uniq (by
              rw [show (z + x) / 2 = (m' : Int) * m' by omega]
              exact isRoot_sq (by omega))
            have e2 : s = n' := hs.uniq (by
              rw [show (z - x) / 2 = (n' : Int) * n' by omega]
              exact isRoot_sq (by omega))
            exact absurd (hti.2 ⟨m', n', e1, e2, hp'⟩) htt
    · refine ⟨false, ?_, ⟨fun h => absurd h (by decide), ?_⟩⟩
      · rw [Bool.eq_false_iff.2 hb] at ha
        unfold spec_riGood.f
        simp only [rd0, rd2, List.length_cons, List.length_nil]
        refine Ev.bind ha ?_
        simp only [Bool.false_eq_true, if_false]
        exact j0 _
      · rintro ⟨m, n, h, e⟩
        exact absurd (by rw [e]; exact (tri_bounds h).1) hb
  · refine ⟨false, ?_, ⟨fun h => absurd h (by decide), fun h => absurd (right_len h) h3⟩⟩
    unfold spec_riGood.f
    simp only [if_neg (show ¬ ((l.length : Int) = 3) by omega)]
    exact j0 _

theorem cop_of {m n a b : Nat} (h : Nat.gcd m n = 1) (hd : ∀ g, g ∣ a → g ∣ b → g ∣ m ∧ g ∣ n) : Nat.gcd a b = 1 := by
  have := hd _ (Nat.gcd_dvd_left a b) (Nat.gcd_dvd_right a b)
  have := Nat.dvd_gcd this.1 this.2
  rw [h] at this
  exact Nat.eq_one_of_dvd_one this
theorem dvd_of_eq {g a b c : Nat} (e : a = b + c) (ha : g ∣ a) (hb : g ∣ b) : g ∣ c := (Nat.dvd_add_right hb).1 (e ▸ ha)
theorem dvd_to_eq {g a b c : Nat} (e : a = b + c) (hb : g ∣ b) (hc : g ∣ c) : g ∣ a := e ▸ Nat.dvd_add hb hc
theorem pairP_half {m n : Nat} (h : PairP m n) (e : m = 2 * n) : m = 2 ∧ n = 1 := by
  have hg : Nat.gcd m n = n := by rw [e]; exact Nat.gcd_mul_left_left 2 n
  have := h.2.2.2
  omega
theorem wid {x : Int} (h : -1000000000000 ≤ x ∧ x ≤ 1000000000000) : wrap64 x = x := wrap_id (by omega) (by omega)
/-- A right triple goes back to its pair. -/
theorem back_tri {m n : Nat} (h : PairOk m n) : Ev (fun k => spec_riBack.f k (tri m n)) ((m : Int), (n : Int)) ∧ Ev (fun k => impl_pairOf.f k (tri m n)) ((m : Int), (n : Int)) := by
  have hR : RightL (tri m n) := ⟨m, n, h, rfl⟩
  have hb := (right_iff.1 hR).1
  have hlt := (tri_bounds h).2
  obtain ⟨r, s, hr, hs, e1⟩ := riBack_ev (x := (m : Int) * m - (n : Int) * n) (y := 2 * (m : Int) * n) (z := (m : Int) * m + (n : Int) * n) hb.1 hb.2.2 hlt
  obtain ⟨r', s', hr', hs', e2⟩ := pairOf_ev (x := (m : Int) * m - (n : Int) * n) (y := 2 * (m : Int) * n) (z := (m : Int) * m + (n : Int) * n) hb.1 hb.2.2 hlt
  have q1 : ((m : Int) * m + (n : Int) * n + ((m : Int) * m - (n : Int) * n)) / 2 = (m : Int) * m := by omega
  have q2 : ((m : Int) * m + (n : Int) * n - ((m : Int) * m - (n : Int) * n)) / 2 = (n : Int) * n := by omega
  rw [q1] at hr hr'
  rw [q2] at hs hs'
  have i1 := isRoot_sq (m := (m : Int)) (by omega)
  have i2 := isRoot_sq (m := (n : Int)) (by omega)
  rw [hr.uniq i1, hs.uniq i2] at e1
  rw [hr'.uniq i1, hs'.uniq i2] at e2
  exact ⟨e1, e2⟩
/-- What a step up gives, in both texts. -/
def Ups (sf pf : Int → Int → Option (Int × Int × Int)) : Prop := ∀ (m n : Nat), PairP m n → m ≤ 31622 →
  (m = 2 ∧ n = 1 ∧ pf m n = some ((m : Int), (n : Int), -1)) ∨ (2 < m ∧ ∃ a b : Nat, ∃ c : Int, PairP a b ∧ a < m ∧ a * a + b * b ≤ m * m + n * n ∧ 0 ≤ c ∧ c ≤ 2 ∧ sf m n = some ((a : Int), (b : Int), c) ∧ pf m n = some ((a : Int), (b : Int), c))
theorem pair_eq3 {a b c d e f : Int} (h : a = c) (k : b = d) (l : e = f) : some (a, b, e) = some (c, d, f) := by rw [h, k, l]
theorem pairP_two {m n : Nat} (h : PairP m n) (hm : ¬ 2 < m) : m = 2 ∧ n = 1 := by
  have := h.1
  have := h.2.1
  omega
theorem price_ups : Ups spec_riPriceUp.f impl_price_2.f := by
  intro m n h hm
  have h' := h
  obtain ⟨h1, hlt, hp, hg⟩ := h
  by_cases hr : m = 2 * n
  · obtain ⟨rfl, rfl⟩ := pairP_half h' hr
    exact Or.inl ⟨rfl, rfl, by unfold impl_price_2.f; simp [wrap64]⟩
  · refine Or.inr ⟨?_, ?_⟩
    · rcases Nat.lt_or_ge 2 m with g | g
      · exact g
      · have := pairP_two h' (by omega); omega
    · unfold spec_riPriceUp.f impl_price_2.f
      rw [Int.tmod_eq_emod_of_nonneg (show (0 : Int) ≤ n by omega), Int.tdiv_eq_ediv_of_nonneg (show (0 : Int) ≤ n by omega), Int.tdiv_eq_ediv_of_nonneg (show (0 : Int) ≤ m by omega), wid (x := 2 * (n : Int)) (by omega), wid (x := (n : Int) / 2) (by omega), wid (x := (m : Int) / 2) (by omega), wid (x := (m : Int) - (n : Int) / 2) (by omega), wid (x := (m : Int) / 2 - n) (by omega), wid (x := (n : Int) - (m : Int) / 2) (by omega)]
      by_cases c1 : n % 2 = 0
      · obtain ⟨p, rfl⟩ : ∃ p, n = 2 * p := ⟨n / 2, by omega⟩
        refine ⟨m - p, p, 0, ⟨by omega, by omega, by omega, cop_of hg fun g ga gb => ⟨?_, Nat.dvd_trans gb (Nat.dvd_mul_left p 2)⟩⟩, by omega, ?_, by omega, by omega, ?_, ?_⟩
        · exact dvd_to_eq (show m = (m - p) + p by omega) ga gb
        · have := Nat.mul_le_mul (show m - p ≤ m by omega) (show m - p ≤ m by omega)
          have := Nat.mul_le_mul (show p ≤ 2 * p by omega) (show p ≤ 2 * p by omega)
          omega
        · rw [if_pos (by omega)]
          exact pair_eq3 (by omega) (by omega) rfl
        · rw [if_pos (by omega)]
          exact pair_eq3 (by omega) (by omega) rfl
      · obtain ⟨p, rfl⟩ : ∃ p, m = 2 * p := ⟨m / 2, by omega⟩
        have hb : ∀ q, q ≤ p → p * p + q * q ≤ 2 * p * (2 * p) + n * n := by
          intro q hq
          have := Nat.mul_le_mul hq hq
          have e : 2 * p * (2 * p) = 4 * (p * p) := Nat.mul_mul_mul_comm 2 p 2 p
          omega
        by_cases c2 : 2 * n < 2 * p
        · refine ⟨p, p - n, 1, ⟨by omega, by omega, by omega, cop_of hg fun g ga gb => ⟨Nat.dvd_trans ga (Nat.dvd_mul_left p 2), ?_⟩⟩, by omega, hb _ (by omega), by omega, by omega, ?_, ?_⟩
          · exact dvd_of_eq (show p = (p - n) + n by omega) ga gb
          · rw [if_neg (by omega), if_pos (by omega)]
            exact pair_eq3 (by omega) (by omega) rfl
          · rw [if_neg (by omega), if_pos (by omega)]
            exact pair_eq3 (by omega) (by omega) rfl
        · refine ⟨p, n - p, 2, ⟨by omega, by omega, by omega, cop_of hg fun g ga gb => ⟨Nat.dvd_trans ga (Nat.dvd_mul_left p 2), ?_⟩⟩, by omega, hb _ (by omega), by omega, by omega, ?_, ?_⟩
          · exact dvd_to_eq (show n = (n - p) + p by omega) gb ga
          · rw [if_neg (by omega), if_neg (by omega)]
            exact pair_eq3 (by omega) (by omega) rfl
          · rw [if_neg (by omega), if_neg (by omega), if_neg (by omega)]
            exact pair_eq3 (by omega) (by omega) rfl

theorem right_back {l : List Int} (h : RightL l) : ∃ m n : Nat, PairOk m n ∧ l = tri m n := h
/-- both tests, one answer -/
theorem right_both (l : List Int) (hl : (l.length : Int) ≤ 9223372036854775806) : ∃ u, Ev (fun k => spec_riGood.f k l) u ∧ Ev (fun k => impl_IsRight.f k l) u ∧ (u = true ↔ RightL l) := by
  obtain ⟨t, ht, hti⟩ := spec_right l hl
  obtain ⟨u, hu, hui⟩ := impl_right l
  have : u = t := by rw [Bool.eq_iff_iff, hti, hui]
  exact ⟨t, ht, this ▸ hu, hti⟩
/-- the path of a pair, and both texts that find it -/
theorem paths {sf pf : Int → Int → Option (Int × Int × Int)} (H : Ups sf pf) (S : Nat → List Int → Int → Int → Option (List Int × Bool))
    (hS : ∀ k x m n, S (k + 1) x m n = if m > 2 then (sf m n).bind fun q => (some (([q.2.2] : List Int) : List Int)).bind fun y => (if y.length + x.length < 17592186044416 then (S k (y ++ x) q.1 q.2.1) else none) else some (x, true)) :
    ∀ (m n : Nat), PairP m n → m ≤ 31622 → ∃ w : List Int, w.length ≤ m ∧ (∀ x : List Int, x.length + m ≤ 40000 → Ev (fun k => S k x m n) (w ++ x, true)) ∧ (∃ q, pf m n = some q ∧ ∀ x : List Int, x.length + m ≤ 40000 → Ev (fun k => wordL pf k x q.1 q.2.1 q.2.2) (x ++ w.reverse)) := by
  intro m
  induction m using Nat.strongRecOn with
  | _ m ih =>
    intro n hp hm
    rcases H m n hp hm with ⟨rfl, rfl, e2⟩ | ⟨h2, a, b, c, hab, hlt, hsq, c0, c2, e1, e2⟩
    · refine ⟨[], Nat.zero_le _, fun x hx => ?_, _, e2, fun x hx => ?_⟩
      · exact Ev.step (f := fun _ => some (x, true)) (fun k => by rw [hS, if_neg (by decide)]) (Ev.now _)
      · refine Ev.step (fun k => by rw [wordL, if_neg (by decide)]) ?_
        rw [List.reverse_nil, List.append_nil]
        exact Ev.now _
    · obtain ⟨w, hw, hs, q, hq, hi⟩ := ih a hlt b hab (by omega)
      refine ⟨w ++ [c], by simp; omega, fun x hx => ?_, _, e2, fun x hx => ?_⟩
      · refine Ev.step (f := fun k => S k ([c] ++ x) a b) (fun k => ?_) ?_
        · rw [hS, if_pos (by omega), e1]
          simp only [Option.bind_some]
          rw [if_pos (by simp <;> omega)]
        · rw [List.append_assoc]
          exact hs _ (by simp <;> omega)
      · refine Ev.step (f := fun k => wordL pf k (x ++ [c]) q.1 q.2.1 q.2.2) (fun k => ?_) ?_
        · rw [wordL, if_pos c0, if_pos (by omega), hq]
          rfl
        · rw [List.reverse_append, List.reverse_cons, List.reverse_nil, List.nil_append, ← List.append_assoc]
          exact hi _ (by simp <;> omega)
/-- turning round -/
theorem rev_l (d : Nat) : ∀ (y a b : List Int) (k : Nat), y.length ≤ d → d < k → (a.length : Int) + y.length + b.length ≤ 4611686018427387904 →
    slices_Reverse_int_int.l0 k (a ++ y ++ b) (a.length : Int) ((a.length : Int) + y.length - 1) = some (a ++ y.reverse ++ b) := by
  induction d with
  | zero =>
    intro y a b k hy hk _
    obtain ⟨k, rfl⟩ : ∃ m, k = m + 1 := ⟨k - 1, by omega⟩
    obtain rfl : y = [] := List.eq_nil_of_length_eq_zero (by omega)
    rw [slices_Reverse_int_int.l0, if_neg (by simp only [List.length_nil]; omega)]
    rfl
  | succ d ih =>
    intro y a b k hy hk hs
    obtain ⟨k, rfl⟩ : ∃ m, k = m + 1 := ⟨k - 1, by omega⟩
    rcases y.eq_nil_or_concat with rfl | ⟨t, v, rfl⟩
    · rw [slices_Reverse_int_int.l0, if_neg (by simp only [List.length_nil]; omega)]
      rfl
    · cases t with
      | nil =>
        rw [slices_Reverse_int_int.l0, if_neg (by simp)]
        simp
      | cons u t =>
        simp only [List.concat_eq_append, List.length_append, List.length_cons, List.length_nil] at hy hs ⊢
        rw [slices_Reverse_int_int.l0, if_pos (by omega), if_pos (by omega), if_pos (by simp only [List.length_append, List.length_cons, List.length_nil] <;> omega), if_pos (by omega), if_pos (by simp only [List.length_append, List.length_cons, List.length_nil] <;> omega), wrap_id (x := (a.length : Int) + 1) (by omega) (by omega), wrap_id (by omega) (by omega)]
        have hj : ((a.length : Int) + ((t.length + 1 + 1 : Nat) : Int) - 1) = ((a.length + 1 + t.length : Nat) : Int) := by omega
        rw [hj, rdi_at (i := a.length + 1 + t.length) (by simp <;> omega), rdi_at (i := a.length) (by simp <;> omega)]
        have g1 : (a ++ ((u :: t) ++ [v]) ++ b)[a.length + 1 + t.length]'(by simp <;> omega) = v := by
          simp [List.getElem_append_right, List.getElem_append, show ¬ a.length + 1 + t.length < a.length by omega, show a.length + 1 + t.length - a.length = t.length + 1 by omega]
        have g2 : (a ++ ((u :: t) ++ [v]) ++ b)[a.length]'(by simp <;> omega) = u := by
          simp [List.getElem_append_right, List.getElem_append]
        rw [g1, g2]
        have e : ((a ++ ((u :: t) ++ [v]) ++ b).set ((a.length : Int)).toNat v).set ((a.length + 1 + t.length : Nat) : Int).toNat u = (a ++ [v]) ++ t ++ ([u] ++ b) := by
          rw [Int.toNat_natCast, Int.toNat_natCast]
          simp [List.set_append, show ¬ a.length + 1 + t.length < a.length by omega, show a.length + 1 + t.length - a.length = t.length + 1 by omega]
        rw [e]
        have := ih t (a ++ [v]) ([u] ++ b) k (by omega) (by omega) (by simp only [List.length_append, List.length_cons, List.length_nil] <;> omega)
        simp only [List.length_append, List.length_cons, List.length_nil] at this
        rw [show ((a.length + 1 + t.length : Nat) : Int) - 1 = ((a.length + (0 + 1) : Nat) : Int) + (t.length : Int) - 1 by omega, show (a.length : Int) + 1 = ((a.length + (0 + 1) : Nat) : Int) by omega, this]
        simp
theorem rev_ev (l : List Int) (hl : (l.length : Int) ≤ 4611686018427387904) : Ev (fun k => slices_Reverse_int_int.f k l) l.reverse := Ev.from l.length (fun k hk => by
  unfold slices_Reverse_int_int.f
  rw [wrap_id (by omega) (by omega)]
  have := rev_l l.length l [] [] k (Nat.le_refl _) hk (by simp only [List.length_nil]; omega)
  simpa using this)
theorem wordF_ev {sf pf : Int → Int → Option (Int × Int × Int)} (H : Ups sf pf) (S : Nat → List Int → Int → Int → Option (List Int × Bool))
    (hS : ∀ k x m n, S (k + 1) x m n = if m > 2 then (sf m n).bind fun q => (some (([q.2.2] : List Int) : List Int)).bind fun y => (if y.length + x.length < 17592186044416 then (S k (y ++ x) q.1 q.2.1) else none) else some (x, true))
    (l : List Int) (hl : (l.length : Int) ≤ 9223372036854775806) : ∃ r : List Int × Bool, r.1.length ≤ 40000 ∧ Ev (fun k => (spec_riGood.f k l).bind fun t => if t = true then ((spec_riBack.f k l).bind fun p => S k ([] : List Int) p.1 p.2) else some (([] : List Int), false)) r ∧ Ev (fun k => wordF pf k l) r := by
  obtain ⟨u, hs, hu, hi⟩ := right_both l hl
  by_cases hr : u = true
  · obtain ⟨m, n, hp, rfl⟩ := right_back (hi.1 hr)
    obtain ⟨w, hw, h1, q, hq, h2⟩ := paths H S hS m n hp.1 hp.le.1
    have hm := hp.le.1
    refine ⟨(w, true), by simp only; omega, Ev.bind hs ?_, ?_⟩
    · simp only [hr, if_true]
      refine Ev.bind (back_tri hp).1 ?_
      have := h1 [] (by simp only [List.length_nil]; omega)
      rw [List.append_nil] at this
      exact this
    · unfold wordF
      refine Ev.bind hu ?_
      simp only [hr, if_true]
      refine Ev.bind (back_tri hp).2 ?_
      simp only [hq, Option.bind_some]
      have e := h2 [] (by simp only [List.length_nil]; omega)
      rw [List.nil_append] at e
      have f := rev_ev w.reverse (by rw [List.length_reverse]; omega)
      rw [List.reverse_reverse] at f
      exact Ev.bind e (Ev.bind f (Ev.now _))
  · refine ⟨([], false), Nat.zero_le _, Ev.bind hs ?_, ?_⟩
    · simp only [if_neg hr]
      exact Ev.now _
    · unfold wordF
      refine Ev.bind hu ?_
      simp only [if_neg hr]
      exact Ev.now _
theorem priceWord (l : List Int) (hl : (l.length : Int) ≤ 9223372036854775806) : ∃ r : List Int × Bool, r.1.length ≤ 40000 ∧ Ev (fun k => spec_PriceWord.f k l) r ∧ Ev (fun k => impl_PriceWord.f k l) r :=
  wordF_ev price_ups spec_PriceWord.l0 (fun _ _ _ _ => rfl) l hl
end Go.Proofs.Ytmjgklpccdigfaa.P
