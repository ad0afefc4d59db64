import Derived.Test.YtmjgklpccdigfaaP0
namespace Go.Proofs.Ytmjgklpccdigfaa.P
open Go.RowKit Go.Proofs.YtmjgklpccdigfaaW.PrintWords Go.Proofs.YtmjgklpccdigfaaW.PrintLast Go.Proofs.YtmjgklpccdigfaaW.PrintMore
/-! Plain numbers: squares of coprime parts, right triples and their pairs, greatest common divisors, roots. -/
theorem nt_sq {a b c : Nat} (h : a * b = c * c) (hc : Nat.Coprime a b) : a = Nat.gcd a c * Nat.gcd a c := by
  have h1 : Nat.gcd (a ^ 2) (c ^ 2) = Nat.gcd a c ^ 2 := Nat.pow_gcd_pow
  rw [Nat.pow_two, Nat.pow_two, Nat.pow_two, ← h, Nat.gcd_mul_left, hc.gcd_eq_one, Nat.mul_one] at h1
  exact h1
theorem nt_sq_inj {a b : Nat} (h : a * a = b * b) : a = b := by
  rcases Nat.lt_trichotomy a b with h1 | h1 | h1
  · have := Nat.mul_lt_mul_of_lt_of_lt h1 h1; omega
  · exact h1
  · have := Nat.mul_lt_mul_of_lt_of_lt h1 h1; omega
theorem nt_dvd_of_sq {d w : Nat} (h : d * d ∣ w * w) : d ∣ w := by
  have h1 : Nat.gcd (d ^ 2) (w ^ 2) = Nat.gcd d w ^ 2 := Nat.pow_gcd_pow
  rw [Nat.pow_two, Nat.pow_two, Nat.pow_two, Nat.gcd_eq_left h] at h1
  have h2 := nt_sq_inj h1
  rw [h2]
  exact Nat.gcd_dvd_right d w
/-- A pair of numbers that makes a right triple. -/
def PairP (m n : Nat) : Prop := 1 ≤ n ∧ n < m ∧ (m + n) % 2 = 1 ∧ Nat.gcd m n = 1
theorem nt_odd_sq {x : Nat} : (x * x) % 2 = x % 2 := by
  rw [Nat.mul_mod]
  rcases Nat.mod_two_eq_zero_or_one x with h | h <;> rw [h]
/-- Each right triple is made of a pair. -/
theorem nt_pair {x y z : Nat} (hx0 : 1 ≤ x) (hy0 : 1 ≤ y) (hx : x % 2 = 1) (hy : y % 2 = 0) (hg : Nat.gcd x y = 1) (h : x * x + y * y = z * z) :
    ∃ m n, PairP m n ∧ (z + x) / 2 = m * m ∧ (z - x) / 2 = n * n ∧ x = m * m - n * n ∧ y = 2 * m * n ∧ z = m * m + n * n := by
  obtain ⟨w, rfl⟩ : ∃ w, y = 2 * w := ⟨y / 2, by omega⟩
  have hz : z % 2 = 1 := by
    have h1 := @nt_odd_sq x
    have h2 := @nt_odd_sq z
    have h3 : (2 * w * (2 * w)) % 2 = 0 := by rw [Nat.mul_assoc]; exact Nat.mul_mod_right 2 _
    omega
  have hzx : x < z := by
    rcases Nat.lt_or_ge x z with h1 | h1
    · exact h1
    · have h2 := Nat.mul_le_mul h1 h1
      have h3 : 0 < 2 * w * (2 * w) := Nat.mul_pos (by omega) (by omega)
      omega
  obtain ⟨u, hu⟩ : ∃ u, z + x = 2 * u := ⟨(z + x) / 2, by omega⟩
  obtain ⟨v, hv⟩ : ∃ v, z - x = 2 * v := ⟨(z - x) / 2, by omega⟩
  have hzuv : z = u + v := by omega
  have hxuv : x + v = u := by omega
  have huv : u * v = w * w := by
    have e1 : z * z = x * x + 4 * (u * v) := by
      rw [hzuv, ← hxuv]
      simp only [Nat.add_mul, Nat.mul_add, Nat.mul_comm, Nat.mul_left_comm]
      omega
    have e2 : 2 * w * (2 * w) = 4 * (w * w) := Nat.mul_mul_mul_comm 2 w 2 w
    omega
  have hcop : Nat.Coprime u v := by
    have hd1 := Nat.gcd_dvd_left u v
    have hd2 := Nat.gcd_dvd_right u v
    have hdx : Nat.gcd u v ∣ x := by
      have := Nat.dvd_sub hd1 hd2
      rwa [show u - v = x by omega] at this
    have hdw : Nat.gcd u v ∣ w := nt_dvd_of_sq (by rw [← huv]; exact Nat.mul_dvd_mul hd1 hd2)
    have hdy : Nat.gcd u v ∣ 2 * w := Nat.dvd_trans hdw (Nat.dvd_mul_left w 2)
    have := Nat.dvd_gcd hdx hdy
    rw [hg] at this
    exact Nat.eq_one_of_dvd_one this
  have hm := nt_sq huv hcop
  have hn := nt_sq ((Nat.mul_comm v u).trans huv) hcop.symm
  generalize Nat.gcd u w = m at hm
  generalize Nat.gcd v w = n at hn
  have hmn : m * n = w := by
    apply nt_sq_inj
    rw [← huv, hm, hn]
    simp only [Nat.mul_comm, Nat.mul_left_comm]
  have hw : 1 ≤ w := by omega
  have hn0 : 1 ≤ n := by
    rcases Nat.eq_zero_or_pos n with h0 | h0
    · rw [h0, Nat.mul_zero] at hmn; omega
    · exact h0
  have hlt : n < m := by
    rcases Nat.lt_or_ge n m with h1 | h1
    · exact h1
    · have := Nat.mul_le_mul h1 h1; omega
  refine ⟨m, n, ⟨hn0, hlt, ?_, ?_⟩, by omega, by omega, by omega, by rw [Nat.mul_assoc, hmn], by omega⟩
  · have h1 := @nt_odd_sq m
    have h2 := @nt_odd_sq n
    omega
  · have h1 : Nat.gcd (m * m) (n * n) = 1 := by rw [← hm, ← hn]; exact hcop
    have h2 : Nat.gcd m n ∣ Nat.gcd (m * m) (n * n) := Nat.dvd_gcd (Nat.dvd_trans (Nat.gcd_dvd_left m n) (Nat.dvd_mul_right m m)) (Nat.dvd_trans (Nat.gcd_dvd_right m n) (Nat.dvd_mul_right n n))
    rw [h1] at h2
    exact Nat.eq_one_of_dvd_one h2
/-- Each pair makes a right triple. -/
theorem nt_right {m n : Nat} (h : PairP m n) : 1 ≤ m * m - n * n ∧ 1 ≤ 2 * m * n ∧ (m * m - n * n) % 2 = 1 ∧ (2 * m * n) % 2 = 0 ∧ Nat.gcd (m * m - n * n) (2 * m * n) = 1 ∧ (m * m - n * n) * (m * m - n * n) + (2 * m * n) * (2 * m * n) = (m * m + n * n) * (m * m + n * n) := by
  obtain ⟨h1, h2, h3, h4⟩ := h
  have hlt : n * n < m * m := Nat.mul_lt_mul_of_lt_of_lt h2 h2
  have hodd : (m * m - n * n) % 2 = 1 := by
    have e1 := @nt_odd_sq m
    have e2 := @nt_odd_sq n
    omega
  have hpos : 1 ≤ 2 * m * n := Nat.mul_pos (by omega) h1
  refine ⟨by omega, hpos, hodd, by rw [Nat.mul_assoc]; exact Nat.mul_mod_right 2 _, ?_, ?_⟩
  · generalize hd : Nat.gcd (m * m - n * n) (2 * m * n) = d
    have hdx : d ∣ m * m - n * n := hd ▸ Nat.gcd_dvd_left _ _
    have hdy : d ∣ 2 * m * n := hd ▸ Nat.gcd_dvd_right _ _
    have hd2 : Nat.Coprime d 2 := by
      have e1 := Nat.gcd_dvd_left d 2
      have e2 := Nat.gcd_dvd_right d 2
      have e3 : Nat.gcd d 2 ∣ m * m - n * n := Nat.dvd_trans e1 hdx
      have e4 := Nat.le_of_dvd (by omega) e2
      have e5 : Nat.gcd d 2 ≠ 2 := by
        intro e
        rw [e] at e3
        omega
      have e6 : Nat.gcd d 2 ≠ 0 := by
        intro e
        rw [e] at e2
        omega
      show Nat.gcd d 2 = 1
      omega
    have hmn : Nat.Coprime m n := h4
    have hdm : Nat.Coprime d m := by
      have e1 := Nat.gcd_dvd_left d m
      have e2 := Nat.gcd_dvd_right d m
      have e3 : Nat.gcd d m ∣ n * n := by
        have := Nat.dvd_sub (Nat.dvd_trans e2 (Nat.dvd_mul_right m m)) (Nat.dvd_trans e1 hdx)
        rwa [show m * m - (m * m - n * n) = n * n by omega] at this
      have e4 : Nat.Coprime m (n * n) := (Nat.Coprime.mul_left hmn.symm hmn.symm).symm
      exact Nat.eq_one_of_dvd_one (e4.gcd_eq_one ▸ Nat.dvd_gcd e2 e3)
    have hdn : Nat.Coprime d n := by
      have e1 := Nat.gcd_dvd_left d n
      have e2 := Nat.gcd_dvd_right d n
      have e3 : Nat.gcd d n ∣ m * m := by
        have := Nat.dvd_add (Nat.dvd_trans e1 hdx) (Nat.dvd_trans e2 (Nat.dvd_mul_right n n))
        rwa [show m * m - n * n + n * n = m * m by omega] at this
      have e4 : Nat.Coprime n (m * m) := (Nat.Coprime.mul_left hmn hmn).symm
      exact Nat.eq_one_of_dvd_one (e4.gcd_eq_one ▸ Nat.dvd_gcd e2 e3)
    have hdy2 := Nat.Coprime.dvd_of_dvd_mul_right hdn hdy
    have hdy3 := Nat.Coprime.dvd_of_dvd_mul_right hdm hdy2
    have := Nat.Coprime.eq_one_of_dvd hd2 hdy3
    exact this
  · obtain ⟨e, he⟩ : ∃ e, m * m = n * n + e := ⟨m * m - n * n, by omega⟩
    have e1 : 2 * m * n * (2 * m * n) = 4 * ((m * m) * (n * n)) := by
      rw [Nat.mul_mul_mul_comm (2 * m) n (2 * m) n, Nat.mul_mul_mul_comm 2 m 2 m, Nat.mul_assoc]
    rw [e1, he, show n * n + e - n * n = e by omega]
    generalize n * n = p
    simp only [Nat.add_mul, Nat.mul_add, Nat.mul_comm, Nat.mul_left_comm]
    omega

end Go.Proofs.Ytmjgklpccdigfaa.P
