import Derived.Test.YtmjgklpccdigfaaP0
import Derived.Test.YtmjgklpccdigfaaP1
import Derived.Test.YtmjgklpccdigfaaP4
import Derived.Test.YtmjgklpccdigfaaP10
import Derived.Test.YtmjgklpccdigfaaP29
import Derived.Test.YtmjgklpccdigfaaP30
import Derived.Test.YtmjgklpccdigfaaP31
import Derived.Test.YtmjgklpccdigfaaP33
import Derived.Test.YtmjgklpccdigfaaP34
namespace Go.Proofs.Ytmjgklpccdigfaa.P
open Go.RowKit Go.Proofs.YtmjgklpccdigfaaW.PrintWords Go.Proofs.YtmjgklpccdigfaaW.PrintLast Go.Proofs.YtmjgklpccdigfaaW.PrintMore
theorem wrap_id {x : Int} (h0 : -9223372036854775808 ≤ x) (h1 : x ≤ 9223372036854775807) : wrap64 x = x := by unfold wrap64; omega
theorem mulb {a b A B : Int} (h0 : 0 ≤ a) (h1 : a ≤ A) (h2 : 0 ≤ b) (h3 : b ≤ B) : 0 ≤ a * b ∧ a * b ≤ A * B :=
  ⟨Int.mul_nonneg h0 h2, Int.mul_le_mul h1 h3 h2 (by omega)⟩
theorem l1In_f (x lo hi : Int) : spec_l1In.f x lo hi = some (inB lo hi x) := by
  unfold spec_l1In.f inB
  by_cases h : x ≥ lo
  · rw [if_pos h]; simp [show lo ≤ x from h]
  · rw [if_neg h]; simp [show ¬ lo ≤ x from h]
theorem inB_iff {lo hi x : Int} : inB lo hi x = true ↔ lo ≤ x ∧ x ≤ hi := by simp [inB]
theorem inB_of {lo hi x : Int} (h : lo ≤ x ∧ x ≤ hi) : inB lo hi x = true := inB_iff.2 h
theorem inB_not {lo hi x : Int} (h : ¬ (lo ≤ x ∧ x ≤ hi)) : inB lo hi x = false := by
  cases e : inB lo hi x with
  | false => rfl
  | true => exact absurd (inB_iff.1 e) h
theorem tmod_nat (a b : Nat) : Int.tmod (a : Int) (b : Int) = ((a % b : Nat) : Int) := by
  rw [Int.tmod_eq_emod_of_nonneg (by omega)]
  norm_cast
theorem foGcd_ev (b : Nat) : ∀ a : Nat, (a : Int) ≤ 9223372036854775807 → (b : Int) ≤ 9223372036854775807 → Ev (fun k => spec_foGcd.f k (a : Int) (b : Int)) ((Nat.gcd a b : Nat) : Int) := by
  induction b using Nat.strongRecOn with
  | _ b ih =>
    intro a ha hb
    rcases Nat.eq_zero_or_pos b with h0 | h0
    · subst h0
      refine Ev.step (f := fun _ => some (a : Int)) (fun k => ?_) (by rw [Nat.gcd_zero_right]; exact Ev.now _)
      simp only [spec_foGcd.f]
      rw [if_pos (show ((0 : Nat) : Int) = 0 from rfl)]
      unfold spec_l1Abs.f spec_l1Most.f
      rw [wrap_id (by omega) (by omega)]
      by_cases h : (a : Int) > -(a : Int)
      · rw [if_pos h]; rfl
      · rw [if_neg h, show -(a : Int) = (a : Int) by omega]; rfl
    · have hlt : a % b < b := Nat.mod_lt _ h0
      have := ih (a % b) hlt b hb (by omega)
      refine Ev.step (f := fun k => (spec_foGcd.f k (b : Int) ((a % b : Nat) : Int)).bind fun t => some t) (fun k => ?_) ?_
      · simp only [spec_foGcd.f]
        rw [if_neg (by omega), tmod_nat]
      · rw [Nat.gcd_comm a b, Nat.gcd_rec b a, Nat.gcd_comm (a % b) b]
        exact Ev.bind this (Ev.now _)
theorem divisor_ev (b : Nat) : ∀ a : Nat, (a : Int) ≤ 9223372036854775807 → (b : Int) ≤ 9223372036854775807 → Ev (fun k => impl_divisor.f k (a : Int) (b : Int)) ((Nat.gcd a b : Nat) : Int) := by
  induction b using Nat.strongRecOn with
  | _ b ih =>
    intro a ha hb
    unfold impl_divisor.f at ih ⊢
    rcases Nat.eq_zero_or_pos b with h0 | h0
    · subst h0
      refine Ev.step (f := fun _ => some (a : Int)) (fun k => ?_) (by rw [Nat.gcd_zero_right]; exact Ev.now _)
      simp only [impl_divisor.l0]
      rw [if_pos (show ((0 : Nat) : Int) = 0 from rfl), wrap_id (by omega) (by omega)]
      unfold mx
      by_cases h : (a : Int) < -(a : Int)
      · rw [if_pos h, show -(a : Int) = (a : Int) by omega]
      · rw [if_neg h]
    · have hlt : a % b < b := Nat.mod_lt _ h0
      have := ih (a % b) hlt b hb (by omega)
      refine Ev.step (f := fun k => impl_divisor.l0 k (b : Int) ((a % b : Nat) : Int)) (fun k => ?_) ?_
      · simp only [impl_divisor.l0]
        rw [if_neg (by omega), tmod_nat]
      · rw [Nat.gcd_comm a b, Nat.gcd_rec b a, Nat.gcd_comm (a % b) b]
        exact this

/-- A pair of numbers that makes a right triple. -/
def PairP (m n : Nat) : Prop := 1 ≤ n ∧ n < m ∧ (m + n) % 2 = 1 ∧ Nat.gcd m n = 1
theorem riOf_nat (m n : Nat) (hm : m ≤ 100000) (hn : n ≤ 100000) : spec_riOf.f (m : Int) (n : Int) = some [(m : Int) * m - (n : Int) * n, 2 * (m : Int) * n, (m : Int) * m + (n : Int) * n] := by
  have a := mulb (show (0 : Int) ≤ m by omega) (show (m : Int) ≤ 100000 by omega) (show (0 : Int) ≤ m by omega) (show (m : Int) ≤ 100000 by omega)
  have b := mulb (show (0 : Int) ≤ n by omega) (show (n : Int) ≤ 100000 by omega) (show (0 : Int) ≤ n by omega) (show (n : Int) ≤ 100000 by omega)
  have c := mulb (show (0 : Int) ≤ 2 * m by omega) (show 2 * (m : Int) ≤ 200000 by omega) (show (0 : Int) ≤ n by omega) (show (n : Int) ≤ 100000 by omega)
  unfold spec_riOf.f
  rw [wrap_id (x := (m : Int) * m) (by omega) (by omega), wrap_id (x := (n : Int) * n) (by omega) (by omega), wrap_id (x := 2 * (m : Int)) (by omega) (by omega), wrap_id (x := 2 * (m : Int) * n) (by omega) (by omega), wrap_id (x := (m : Int) * m - (n : Int) * n) (by omega) (by omega), wrap_id (x := (m : Int) * m + (n : Int) * n) (by omega) (by omega)]
def tri (m n : Nat) : List Int := [(m : Int) * m - (n : Int) * n, 2 * (m : Int) * n, (m : Int) * m + (n : Int) * n]
def PairOk (m n : Nat) : Prop := PairP m n ∧ m * m + n * n ≤ 1000000000
theorem PairOk.le {m n : Nat} (h : PairOk m n) : m ≤ 31622 ∧ n ≤ 31622 := by
  have h1 : m ≤ 31622 := by
    rcases Nat.lt_or_ge 31622 m with h1 | h1
    · have := Nat.mul_le_mul h1 h1
      have := h.2
      omega
    · exact h1
  have := h.1.2.1
  omega
/-- The test of a pair. -/
theorem riPair_ev (a b : Int) (ha : -9223372036854775807 ≤ a ∧ a ≤ 9223372036854775807) (hb : -9223372036854775807 ≤ b ∧ b ≤ 9223372036854775807) :
    ∃ t, Ev (fun k => spec_riPair.f k a b) t ∧ (t = true ↔ ∃ m n : Nat, a = m ∧ b = n ∧ PairOk m n) := by
  by_cases h1 : 2 ≤ a ∧ a ≤ 31623
  · by_cases h2 : 1 ≤ b ∧ b ≤ a - 1
    · obtain ⟨m, rfl⟩ : ∃ m : Nat, a = m := ⟨a.toNat, by omega⟩
      obtain ⟨n, rfl⟩ : ∃ n : Nat, b = n := ⟨b.toNat, by omega⟩
      have hg := foGcd_ev n m (by omega) (by omega)
      have A := mulb (show (0 : Int) ≤ m by omega) h1.2 (show (0 : Int) ≤ m by omega) h1.2
      have B := mulb (show (0 : Int) ≤ n by omega) (show (n : Int) ≤ 31623 by omega) (show (0 : Int) ≤ n by omega) (show (n : Int) ≤ 31623 by omega)
      have hodd : (Int.tmod (wrap64 ((m : Int) + n)) 2 = 1) ↔ (m + n) % 2 = 1 := by
        rw [wrap_id (by omega) (by omega), Int.tmod_eq_emod_of_nonneg (by omega)]
        omega
      have huniq : (∃ m' n' : Nat, (m : Int) = m' ∧ (n : Int) = n' ∧ PairOk m' n') ↔ PairOk m n := by
        constructor
        · rintro ⟨m', n', e1, e2, h⟩
          rw [show m = m' by omega, show n = n' by omega]
          exact h
        · exact fun h => ⟨m, n, rfl, rfl, h⟩
      rw [huniq]
      by_cases h3 : (m + n) % 2 = 1
      · by_cases h4 : Nat.gcd m n = 1
        · refine ⟨decide (m * m + n * n ≤ 1000000000), ?_, ?_⟩
          · unfold spec_riPair.f
            simp only [l1In_f, Option.bind_some]
            rw [wrap_id (x := (m : Int) - 1) (by omega) (by omega), inB_of h1, inB_of h2]
            simp only [if_true, if_pos (hodd.2 h3)]
            refine Ev.bind hg ?_
            rw [h4, wrap_id (x := (m : Int) * m) (by omega) (by omega), wrap_id (x := (n : Int) * n) (by omega) (by omega), wrap_id (x := (m : Int) * m + (n : Int) * n) (by omega) (by omega)]
            simp only [Int.cast_ofNat_Int, if_true]
            rw [show (decide ((m : Int) * m + (n : Int) * n ≤ 1000000000)) = decide (m * m + n * n ≤ 1000000000) from by
              by_cases g : m * m + n * n ≤ 1000000000
              · rw [decide_eq_true g, decide_eq_true (by omega)]
              · rw [decide_eq_false g, decide_eq_false (by omega)]]
            exact Ev.now _
          · rw [decide_eq_true_iff]
            exact ⟨fun h => ⟨⟨by omega, by omega, h3, h4⟩, h⟩, fun h => h.2⟩
        · refine ⟨false, ?_, ⟨fun h => absurd h (by decide), fun h => absurd h.1.2.2.2 h4⟩⟩
          unfold spec_riPair.f
          simp only [l1In_f, Option.bind_some]
          rw [wrap_id (x := (m : Int) - 1) (by omega) (by omega), inB_of h1, inB_of h2]
          simp only [if_true, if_pos (hodd.2 h3)]
          refine Ev.bind hg ?_
          simp only [if_neg (show ¬ (((Nat.gcd m n : Nat) : Int) = 1) by omega)]
          exact Ev.now _
      · refine ⟨false, ?_, ⟨fun h => absurd h (by decide), fun h => absurd h.1.2.2.1 h3⟩⟩
        unfold spec_riPair.f
        simp only [l1In_f, Option.bind_some]
        rw [wrap_id (x := (m : Int) - 1) (by omega) (by omega), inB_of h1, inB_of h2]
        simp only [if_true, if_neg (fun h => h3 (hodd.1 h))]
        exact Ev.now _
    · refine ⟨false, ?_, ⟨fun h => absurd h (by decide), ?_⟩⟩
      · unfold spec_riPair.f
        simp only [l1In_f, Option.bind_some]
        rw [wrap_id (x := a - 1) (by omega) (by omega), inB_of h1, inB_not h2]
        simp only [if_true, Bool.false_eq_true, if_false]
        exact Ev.now _
      · rintro ⟨m, n, rfl, rfl, h⟩
        have := h.1
        exact absurd ⟨by have := this.1; omega, by have := this.2.1; omega⟩ h2
  · refine ⟨false, ?_, ⟨fun h => absurd h (by decide), ?_⟩⟩
    · unfold spec_riPair.f
      simp only [l1In_f, Option.bind_some]
      rw [inB_not h1]
      simp only [Bool.false_eq_true, if_false]
      exact Ev.now _
    · rintro ⟨m, n, rfl, rfl, h⟩
      have h5 := h.le
      exact absurd ⟨by have := h.1.1; have := h.1.2.1; omega, by omega⟩ h1
instance pairP_dec (m n : Nat) : Decidable (PairP m n) := by unfold PairP; infer_instance
/-- With pairP_dec. -/
theorem riPairD {m n : Nat} (h1 : 1 ≤ n) (h2 : n < m) (h3 : m ≤ 100) : Ev (fun k => spec_riPair.f k (m : Int) (n : Int)) (decide (PairP m n)) := by
  obtain ⟨t, ht, hti⟩ := riPair_ev m n (by omega) (by omega)
  have e : t = decide (PairP m n) := by
    rw [Bool.eq_iff_iff, hti, decide_eq_true_iff]
    constructor
    · rintro ⟨m', n', e1, e2, hp⟩
      rw [show m = m' by omega, show n = n' by omega]
      exact hp.1
    · intro hs
      have a := Nat.mul_le_mul h3 h3
      have b := Nat.mul_le_mul (show n ≤ 100 by omega) (show n ≤ 100 by omega)
      exact ⟨m, n, rfl, rfl, hs, by omega⟩
  exact e ▸ ht
/-- With pairP_dec. -/
theorem isPairD {m n : Nat} (h1 : 1 ≤ n) (h2 : n < m) (h3 : m ≤ 100) : Ev (fun k => impl_pair_isPair.f k (m : Int) (n : Int)) (decide (PairP m n)) := by
  unfold impl_pair_isPair.f
  simp only [if_pos (show (m : Int) > (n : Int) by omega), if_pos (show (n : Int) ≥ 1 by omega)]
  have hodd : (Int.tmod (wrap64 ((m : Int) - n)) 2 = 1) ↔ (m + n) % 2 = 1 := by
    rw [wrap_id (by omega) (by omega), Int.tmod_eq_emod_of_nonneg (by omega)]
    omega
  by_cases ho : (m + n) % 2 = 1
  · simp only [if_pos (hodd.2 ho)]
    refine Ev.bind (divisor_ev n m (by omega) (by omega)) ?_
    have e : (((Nat.gcd m n : Nat) : Int) == 1) = decide (PairP m n) := by
      rw [Bool.eq_iff_iff, beq_iff_eq, decide_eq_true_iff]
      unfold PairP
      omega
    rw [e]
    exact Ev.now _
  · simp only [if_neg (fun h => ho (hodd.1 h))]
    rw [decide_eq_false (fun h : PairP m n => ho h.2.2.1)]
    exact Ev.now _
theorem tri_key {m n m' n' : Nat} (hn : n < m) (hn' : n' < m') (h : cmpT (tri m n) (tri m' n') = 0) : m = m' ∧ n = n' := by
  obtain ⟨h1, h2⟩ := cmpT_eq.1 h
  have g0 : ∀ a b : Nat, (tri a b).getD 0 0 = (a : Int) * a - (b : Int) * b := fun _ _ => rfl
  have g2 : ∀ a b : Nat, (tri a b).getD 2 0 = (a : Int) * a + (b : Int) * b := fun _ _ => rfl
  rw [g0, g0] at h2
  rw [g2, g2] at h1
  have sq : ∀ a b : Nat, (a : Int) * a = (b : Int) * b → a = b := by
    intro a b e
    have e2 : a * a = b * b := by
      have : ((a * a : Nat) : Int) = ((b * b : Nat) : Int) := by push_cast; exact e
      exact Int.ofNat.inj this
    rcases Nat.lt_trichotomy a b with l | l | l
    · exact absurd e2 (Nat.ne_of_lt (Nat.mul_self_lt_mul_self l))
    · exact l
    · exact absurd e2.symm (Nat.ne_of_lt (Nat.mul_self_lt_mul_self l))
  exact ⟨sq m m' (by omega), sq n n' (by omega)⟩
theorem cmpT_trans {x y z : List Int} (h1 : cmpT x y < 0) (h2 : cmpT y z < 0) : cmpT x z < 0 := by
  rw [cmpT_lt] at *
  omega
theorem cmpT_asymm {x y : List Int} (h1 : cmpT x y < 0) (h2 : cmpT y x < 0) : False := by
  rw [cmpT_lt] at *
  omega
theorem cmpT_tri {x y : List Int} (h1 : cmpT x y ≠ 0) (h2 : ¬ cmpT x y < 0) : cmpT y x < 0 := by
  rw [cmpT_lt] at *
  rw [Ne, cmpT_eq] at h1
  omega
theorem cmpT_ne_symm {x y : List Int} (h : cmpT x y ≠ 0) : cmpT y x ≠ 0 := by
  rw [Ne, cmpT_eq] at *
  omega
theorem before_f {x y : List Int} (hx : x.length = 3) (hy : y.length = 3) : spec_riBefore.f x y = some (decide (cmpT x y < 0)) := by
  unfold spec_riBefore.f
  rw [if_pos (by omega), if_pos (by omega)]
  have e0 : ∀ z : List Int, rd z 0 = z.getD 0 0 := fun _ => rfl
  have e2 : ∀ z : List Int, rd z 2 = z.getD 2 0 := fun _ => rfl
  rw [e0, e0, e2, e2]
  by_cases h : x.getD 2 0 < y.getD 2 0
  · rw [if_pos h, decide_eq_true (cmpT_lt.2 (.inl h))]
  · rw [if_neg h]
    by_cases h2 : x.getD 2 0 = y.getD 2 0
    · rw [if_pos h2, if_pos (by omega), if_pos (by omega)]
      congr 1
      rw [Bool.eq_iff_iff, decide_eq_true_iff, decide_eq_true_iff, cmpT_lt]
      omega
    · rw [if_neg h2, decide_eq_false]
      rw [cmpT_lt]
      omega
/-- Where a triple is put. -/
theorem put_l (most : Int) (m n : Nat) (hm : n ≤ 1000) (t : List Int) (ht : t.length = 3) (d : Nat) : ∀ (A C : List (List Int)), A.length = d → A.length + C.length ≤ 1000000 → (∀ x ∈ A ++ C, x.length = 3) → (A ++ C).Pairwise (fun x y => cmpT x y < 0) → (∀ x ∈ A, cmpT t x ≠ 0) → (∀ x ∈ C, cmpT t x < 0) →
    ∃ A0 C0, A ++ C = A0 ++ C0 ∧ (∀ x ∈ C0, cmpT t x < 0) ∧ (∀ x ∈ A0, cmpT x t < 0) ∧ ∀ r, Ev (fun k => spec_riUpTo.l1 k most (A0 ++ t :: C0) m ((n + 1 : Nat) : Int)) r → Ev (fun k => spec_riUpTo.l2 k most (A ++ C) m n t (d : Int)) r := by
  have hw : wrap64 ((n : Int) + 1) = ((n + 1 : Nat) : Int) := by rw [wrap_id (by omega) (by omega)]; omega
  induction d with
  | zero =>
    intro A C hA hl h3 hp hAt hC
    obtain rfl : A = [] := List.eq_nil_of_length_eq_zero hA
    refine ⟨[], C, rfl, hC, by simp, fun r ⟨K, h⟩ => ⟨K + 1, fun k hk => ?_⟩⟩
    obtain ⟨k, rfl⟩ : ∃ j, k = j + 1 := ⟨k - 1, by omega⟩
    have h := h k (by omega)
    dsimp only at h ⊢
    simp only [List.length_nil, Nat.zero_add] at hl
    simp only [spec_riUpTo.l2, List.nil_append]
    rw [if_neg (by decide)]
    simp only [Option.bind_some]
    rw [if_pos (by decide), if_pos (by omega)]
    simp only [Int.toNat_natCast, List.take_zero, List.drop_zero, Option.bind_some, List.nil_append, List.append_nil, List.length_nil, List.length_cons, List.length_append]
    rw [if_pos (by omega), if_pos (by omega), if_pos (by omega), hw]
    simpa using h
  | succ d ih =>
    intro A C hA hl h3 hp hAt hC
    obtain ⟨A', a, rfl⟩ : ∃ A' a, A = A' ++ [a] := by
      rcases List.eq_nil_or_concat A with h | ⟨A', a, h⟩
      · subst h; cases hA
      · exact ⟨A', a, by simpa using h⟩
    have hd : A'.length = d := by simpa using hA
    have hw2 : wrap64 (((d + 1 : Nat) : Int) - 1) = (d : Int) := by rw [wrap_id (by omega) (by omega)]; omega
    have hlen : ((A' ++ [a] ++ C).length : Int) = (d : Int) + 1 + C.length := by simp [hd]; omega
    have hrd : rd_L1 (A' ++ [a] ++ C) (d : Int) = a := by
      subst hd
      simp [rd_L1]
    have h3a := h3 a (by simp)
    simp only [List.length_append, List.length_cons, List.length_nil] at hl
    by_cases hta : cmpT t a < 0
    · obtain ⟨A0, C0, e1, e2, e3, e4⟩ := ih A' (a :: C) hd (by simp only [List.length_cons]; omega) (fun x hx => h3 x (by simpa using hx)) (by simpa using hp) (fun x hx => hAt x (by simp [hx])) (fun x hx => by
        rcases List.mem_cons.1 hx with rfl | hx
        · exact hta
        · exact hC x hx)
      refine ⟨A0, C0, by rw [← e1]; simp, e2, e3, fun r hr => ?_⟩
      refine Ev.step (f := fun k => spec_riUpTo.l2 k most (A' ++ a :: C) m n t (d : Int)) (fun k => ?_) (e4 r hr)
      simp only [spec_riUpTo.l2]
      rw [if_pos (by omega), hw2, if_pos (by omega), if_pos (by rw [hlen]; omega), hrd, before_f ht h3a, decide_eq_true hta]
      simp only [Option.bind_some, if_true]
      rw [show A' ++ [a] ++ C = A' ++ a :: C by simp]
    · refine ⟨A' ++ [a], C, rfl, hC, fun x hx => ?_, fun r ⟨K, h⟩ => ⟨K + 1, fun k hk => ?_⟩⟩
      · have hat := cmpT_tri (hAt a (by simp)) hta
        rcases List.mem_append.1 hx with hx | hx
        · have := List.pairwise_append.1 (List.pairwise_append.1 hp).1
          exact cmpT_trans (this.2.2 x hx a (by simp)) hat
        · simp only [List.mem_singleton] at hx
          subst hx
          exact hat
      · obtain ⟨k, rfl⟩ : ∃ j, k = j + 1 := ⟨k - 1, by omega⟩
        have h := h k (by omega)
        dsimp only at h ⊢
        simp only [spec_riUpTo.l2]
        rw [if_pos (by omega), hw2, if_pos (by omega), if_pos (by rw [hlen]; omega), hrd, before_f ht h3a, decide_eq_false hta]
        simp only [Option.bind_some, Bool.false_eq_true, if_false]
        have hA1 : (A' ++ [a]).length = d + 1 := by simp [hd]
        have htk : (A' ++ [a] ++ C).take ((d + 1 : Nat) : Int).toNat = A' ++ [a] := by rw [Int.toNat_natCast, ← hA1]; exact List.take_left
        have hdr : (A' ++ [a] ++ C).drop ((d + 1 : Nat) : Int).toNat = C := by rw [Int.toNat_natCast, ← hA1]; exact List.drop_left
        rw [if_pos (by omega), if_pos (by rw [hlen]; omega), htk, hdr]
        simp only [List.nil_append]
        rw [if_pos (by simp only [List.length_nil]; omega), if_pos (by omega), if_pos (by simp only [List.length_append, List.length_cons, List.length_nil] at *; omega), hw]
        simpa using h
/-- What holds of both lists ahead of the pair (m, n). -/
structure UpI (S U : List (List Int)) (m n : Nat) : Prop where
  perm : S.Perm U
  sorted : S.Pairwise (fun x y => cmpT x y < 0)
  from_ : ∀ x ∈ U, ∃ a b : Nat, x = tri a b ∧ b < a ∧ (a < m ∨ a = m ∧ b < n)
theorem UpI.three {S U : List (List Int)} {m n : Nat} (h : UpI S U m n) : ∀ x ∈ S, x.length = 3 := fun x hx => by
  obtain ⟨a, b, rfl, _⟩ := h.from_ x (h.perm.mem_iff.1 hx)
  rfl
theorem right_f {m n : Nat} (hm : m ≤ 100) (hn : n ≤ 100) : impl_pair_right.f (m : Int) (n : Int) = some (tri m n, true) := by
  have a := mulb (show (0 : Int) ≤ m by omega) (show (m : Int) ≤ 100 by omega) (show (0 : Int) ≤ m by omega) (show (m : Int) ≤ 100 by omega)
  have b := mulb (show (0 : Int) ≤ n by omega) (show (n : Int) ≤ 100 by omega) (show (0 : Int) ≤ n by omega) (show (n : Int) ≤ 100 by omega)
  have c := mulb (show (0 : Int) ≤ 2 * m by omega) (show 2 * (m : Int) ≤ 200 by omega) (show (0 : Int) ≤ n by omega) (show (n : Int) ≤ 100 by omega)
  unfold impl_pair_right.f
  rw [if_neg (by omega), wrap_id (x := (m : Int) * m) (by omega) (by omega), wrap_id (x := (n : Int) * n) (by omega) (by omega), wrap_id (x := 2 * (m : Int)) (by omega) (by omega), wrap_id (x := 2 * (m : Int) * n) (by omega) (by omega), wrap_id (x := (m : Int) * m - (n : Int) * n) (by omega) (by omega), wrap_id (x := (m : Int) * m + (n : Int) * n) (by omega) (by omega), if_neg (by omega)]
  rfl
theorem up_1 (most : Int) (hmo : most ≤ 5000) (m : Nat) (hm : 2 ≤ m) (hm2 : m ≤ 75) (e : Nat) : ∀ (n : Nat) (S U : List (List Int)), n + e = m → 1 ≤ n → UpI S U m n → U.length + e ≤ 100000 →
    ∃ S' U', UpI S' U' (m + 1) 1 ∧ U'.length ≤ U.length + e ∧ (∀ r, Ev (fun k => spec_riUpTo.l0 k most S' ((m + 1 : Nat) : Int)) r → Ev (fun k => spec_riUpTo.l1 k most S m (n : Int)) r) ∧
      (∀ r, Ev (fun k => impl_RightUpTo.l0 k most U' ((m + 1 : Nat) : Int)) r → Ev (fun k => impl_RightUpTo.l1 k most U m (n : Int)) r) := by
  have hwm : wrap64 ((m : Int) + 1) = ((m + 1 : Nat) : Int) := by rw [wrap_id (by omega) (by omega)]; omega
  induction e with
  | zero =>
    intro n S U he hn hI hl
    refine ⟨S, U, ⟨hI.perm, hI.sorted, fun x hx => ?_⟩, by omega, fun r hr => ?_, fun r hr => ?_⟩
    · obtain ⟨a, b, h1, h2, h3⟩ := hI.from_ x hx
      exact ⟨a, b, h1, h2, by omega⟩
    · refine Ev.step (fun k => ?_) hr
      simp only [spec_riUpTo.l1]
      rw [if_neg (by omega), hwm]
    · refine Ev.step (fun k => ?_) hr
      simp only [impl_RightUpTo.l1]
      rw [if_neg (by omega), hwm]
  | succ e ih =>
    intro n S U he hn hI hl
    have hw : wrap64 ((n : Int) + 1) = ((n + 1 : Nat) : Int) := by rw [wrap_id (by omega) (by omega)]; omega
    have hlt : (n : Int) < (m : Int) := by omega
    have hp1 := riPairD hn (show n < m by omega) (show m ≤ 100 by omega)
    have hp2 := isPairD hn (show n < m by omega) (show m ≤ 100 by omega)
    have am := mulb (show (0 : Int) ≤ m by omega) (show (m : Int) ≤ 100 by omega) (show (0 : Int) ≤ m by omega) (show (m : Int) ≤ 100 by omega)
    have an := mulb (show (0 : Int) ≤ n by omega) (show (n : Int) ≤ 100 by omega) (show (0 : Int) ≤ n by omega) (show (n : Int) ≤ 100 by omega)
    have hsq : wrap64 (wrap64 ((m : Int) * m) + wrap64 ((n : Int) * n)) = (m : Int) * m + (n : Int) * n := by
      rw [wrap_id (x := (m : Int) * m) (by omega) (by omega), wrap_id (x := (n : Int) * n) (by omega) (by omega), wrap_id (by omega) (by omega)]
    by_cases hp : PairP m n ∧ (m : Int) * m + (n : Int) * n ≤ most
    · -- a triple comes
      have hnew : ∀ x ∈ S, cmpT (tri m n) x ≠ 0 := by
        intro x hx h0
        obtain ⟨a, b, rfl, h2, h3⟩ := hI.from_ x (hI.perm.mem_iff.1 hx)
        have := tri_key (show n < m by omega) h2 h0
        omega
      have hSl : S.length = U.length := hI.perm.length_eq
      obtain ⟨A0, C0, e1, e2, e3, e4⟩ := put_l most m n (by omega) (tri m n) rfl S.length S [] rfl (by simp; omega) (by simpa using hI.three) (by simpa using hI.sorted) hnew (by simp)
      rw [List.append_nil] at e1 e4
      have hI2 : UpI (A0 ++ tri m n :: C0) (U ++ [tri m n]) m (n + 1) := by
        refine ⟨?_, ?_, fun x hx => ?_⟩
        · refine List.perm_middle.trans ?_
          rw [← e1]
          exact (hI.perm.cons _).trans (List.perm_append_singleton _ _).symm
        · have hs := hI.sorted
          rw [e1] at hs
          obtain ⟨p1, p2, p3⟩ := List.pairwise_append.1 hs
          refine List.pairwise_append.2 ⟨p1, List.pairwise_cons.2 ⟨e2, p2⟩, fun x hx y hy => ?_⟩
          rcases List.mem_cons.1 hy with rfl | hy
          · exact e3 x hx
          · exact p3 x hx y hy
        · rcases List.mem_append.1 hx with hx | hx
          · obtain ⟨a, b, h1, h2, h3⟩ := hI.from_ x hx
            exact ⟨a, b, h1, h2, by omega⟩
          · simp only [List.mem_singleton] at hx
            exact ⟨m, n, hx, by omega, by omega⟩
      obtain ⟨S', U', i1, i2, i3, i4⟩ := ih (n + 1) (A0 ++ tri m n :: C0) (U ++ [tri m n]) (by omega) (by omega) hI2 (by simp; omega)
      refine ⟨S', U', i1, by simp at i2; omega, fun r hr => ?_, fun r hr => ?_⟩
      · refine Ev.step (f := fun k => (spec_riPair.f k (m : Int) (n : Int)).bind fun t610 => (if t610 = true then (spec_riUpTo.j2 k most S m n (decide ((wrap64 ((wrap64 ((m : Int) * m)) + (wrap64 ((n : Int) * n)))) > most))) else (spec_riUpTo.j2 k most S m n true))) (fun k => ?_) ?_
        · simp only [spec_riUpTo.l1]
          rw [if_pos hlt]
        · refine Ev.bind hp1 ?_
          simp only [decide_eq_true hp.1, if_true, hsq]
          rw [decide_eq_false (show ¬ ((m : Int) * m + (n : Int) * n > most) by omega)]
          refine Ev.step (f := fun k => (spec_riOf.f (m : Int) (n : Int)).bind fun t611 => (spec_riUpTo.l2 k most S m n t611 (S.length : Int))) (fun k => ?_) ?_
          · simp only [spec_riUpTo.j2, Bool.false_eq_true, if_false]
          · rw [riOf_nat m n (by omega) (by omega)]
            simp only [Option.bind_some]
            exact e4 r (i3 r hr)
      · refine Ev.step (f := fun k => (impl_pair_isPair.f k (m : Int) (n : Int)).bind fun t684 => (if t684 = true then (if (wrap64 ((wrap64 ((m : Int) * m)) + (wrap64 ((n : Int) * n)))) ≤ most then ((impl_pair_right.f (m : Int) (n : Int)).bind fun bt685 => (if U.length < 5864062014805 then (impl_RightUpTo.l1 k most (U ++ [bt685.1]) m (wrap64 ((n : Int) + 1))) else (none))) else (impl_RightUpTo.l1 k most U m (wrap64 ((n : Int) + 1)))) else (impl_RightUpTo.l1 k most U m (wrap64 ((n : Int) + 1))))) (fun k => ?_) ?_
        · simp only [impl_RightUpTo.l1]
          rw [if_pos hlt]
        · refine Ev.bind hp2 ?_
          simp only [decide_eq_true hp.1, if_true, hsq, if_pos hp.2, right_f (show m ≤ 100 by omega) (show n ≤ 100 by omega), Option.bind_some, if_pos (show U.length < 5864062014805 by omega), hw]
          exact i4 r hr
    · obtain ⟨S', U', i1, i2, i3, i4⟩ := ih (n + 1) S U (by omega) (by omega) ⟨hI.perm, hI.sorted, fun x hx => by
        obtain ⟨a, b, h1, h2, h3⟩ := hI.from_ x hx
        exact ⟨a, b, h1, h2, by omega⟩⟩ (by omega)
      refine ⟨S', U', i1, by omega, fun r hr => ?_, fun r hr => ?_⟩
      · refine Ev.step (f := fun k => (spec_riPair.f k (m : Int) (n : Int)).bind fun t610 => (if t610 = true then (spec_riUpTo.j2 k most S m n (decide ((wrap64 ((wrap64 ((m : Int) * m)) + (wrap64 ((n : Int) * n)))) > most))) else (spec_riUpTo.j2 k most S m n true))) (fun k => ?_) ?_
        · simp only [spec_riUpTo.l1]
          rw [if_pos hlt]
        · refine Ev.bind hp1 ?_
          have hj : Ev (fun k => spec_riUpTo.j2 k most S m n true) r := by
            refine Ev.step (fun k => ?_) (i3 r hr)
            simp only [spec_riUpTo.j2, if_true, hw]
          by_cases hq : PairP m n
          · simp only [decide_eq_true hq, if_true, hsq]
            rw [decide_eq_true (show (m : Int) * m + (n : Int) * n > most by
              have : ¬ (m : Int) * m + (n : Int) * n ≤ most := fun h => hp ⟨hq, h⟩
              omega)]
            exact hj
          · simp only [decide_eq_false hq, Bool.false_eq_true, if_false]
            exact hj
      · refine Ev.step (f := fun k => (impl_pair_isPair.f k (m : Int) (n : Int)).bind fun t684 => (if t684 = true then (if (wrap64 ((wrap64 ((m : Int) * m)) + (wrap64 ((n : Int) * n)))) ≤ most then ((impl_pair_right.f (m : Int) (n : Int)).bind fun bt685 => (if U.length < 5864062014805 then (impl_RightUpTo.l1 k most (U ++ [bt685.1]) m (wrap64 ((n : Int) + 1))) else (none))) else (impl_RightUpTo.l1 k most U m (wrap64 ((n : Int) + 1)))) else (impl_RightUpTo.l1 k most U m (wrap64 ((n : Int) + 1))))) (fun k => ?_) ?_
        · simp only [impl_RightUpTo.l1]
          rw [if_pos hlt]
        · refine Ev.bind hp2 ?_
          by_cases hq : PairP m n
          · have hgt : ¬ (m : Int) * m + (n : Int) * n ≤ most := fun h => hp ⟨hq, h⟩
            simp only [decide_eq_true hq, if_true, hsq, if_neg hgt, hw]
            exact i4 r hr
          · simp only [decide_eq_false hq, Bool.false_eq_true, if_false, hw]
            exact i4 r hr
/-- Sorted by the library: the list that the reference holds. -/
theorem sort_up {S U : List (List Int)} {m n : Nat} (hI : UpI S U m n) (hl : U.length ≤ 1000000) : slices_SortFunc_int_int.f U = some S := by
  have hne : U.Pairwise (fun x y => cmpT x y ≠ 0) := (List.Perm.pairwise_iff (fun h => cmpT_ne_symm h) hI.perm).1 (hI.sorted.imp (fun h => by omega))
  have hap : ∀ l : List (List Int), l.Pairwise (fun x y => cmpT x y ≠ 0) → apartT l = true := by
    intro l
    induction l with
    | nil => intro _; rfl
    | cons x t ih =>
      intro h
      have h := List.pairwise_cons.1 h
      simp only [apartT, Bool.and_eq_true, List.all_eq_true, decide_eq_true_eq]
      exact ⟨h.1, ih h.2⟩
  have h3 : ∀ x ∈ U, x.length = 3 := fun x hx => hI.three x (hI.perm.mem_iff.2 hx)
  have hms : U.mergeSort leT = S := by
    have hp := List.mergeSort_perm U leT
    have hs : (U.mergeSort leT).Pairwise (fun a b => leT a b = true) := List.pairwise_mergeSort (fun a b c h1 h2 => by
      simp only [leT, Bool.not_eq_true', decide_eq_false_iff_not, cmpT_lt] at *; omega) (fun a b => by
      simp only [leT, Bool.or_eq_true, Bool.not_eq_true', decide_eq_false_iff_not, cmpT_lt]; omega) U
    have hn : (U.mergeSort leT).Pairwise (fun x y => cmpT x y ≠ 0) := (List.Perm.pairwise_iff (fun h => cmpT_ne_symm h) hp.symm).1 hne
    have hlt : (U.mergeSort leT).Pairwise (fun x y => cmpT x y < 0) := (hs.and hn).imp (fun {a b} h => by
      have h1 := h.1
      simp only [leT, Bool.not_eq_true', decide_eq_false_iff_not] at h1
      exact cmpT_tri (cmpT_ne_symm h.2) h1)
    exact List.Perm.eq_of_pairwise (le := fun x y => cmpT x y < 0) (fun a b _ _ h1 h2 => (cmpT_asymm h1 h2).elim) hlt hI.sorted (hp.trans hI.perm.symm)
  unfold slices_SortFunc_int_int.f
  rw [if_pos (by
    simp only [Bool.and_eq_true, decide_eq_true_eq, List.all_eq_true]
    exact ⟨⟨by omega, h3⟩, hap U hne⟩), hms]
theorem up_0 (most : Int) (hmo : most ≤ 5000) (d : Nat) : ∀ (m : Nat) (S U : List (List Int)), m + d = 72 → 2 ≤ m → UpI S U m 1 → U.length ≤ 72 * m →
    ∃ r : List (List Int), Ev (fun k => spec_riUpTo.l0 k most S (m : Int)) r ∧ Ev (fun k => impl_RightUpTo.l0 k most U (m : Int)) (r, true) ∧ r.length ≤ 10000 ∧ ∀ x ∈ r, x.length = 3 := by
  have stop : ∀ (m : Nat) (S U : List (List Int)), m ≤ 72 → 2 ≤ m → UpI S U m 1 → U.length ≤ 72 * m → ¬ ((m : Int) * m < most) →
      ∃ r : List (List Int), Ev (fun k => spec_riUpTo.l0 k most S (m : Int)) r ∧ Ev (fun k => impl_RightUpTo.l0 k most U (m : Int)) (r, true) ∧ r.length ≤ 10000 ∧ ∀ x ∈ r, x.length = 3 := by
    intro m S U h72 h2 hI hl hge
    have am := mulb (show (0 : Int) ≤ m by omega) (show (m : Int) ≤ 100 by omega) (show (0 : Int) ≤ m by omega) (show (m : Int) ≤ 100 by omega)
    have hw : wrap64 ((m : Int) * m) = (m : Int) * m := wrap_id (by omega) (by omega)
    have hSl : S.length = U.length := hI.perm.length_eq
    refine ⟨S, ?_, ?_, by omega, hI.three⟩
    · refine Ev.step (f := fun _ => some S) (fun k => ?_) (Ev.now _)
      simp only [spec_riUpTo.l0]
      rw [hw, if_neg hge]
    · refine Ev.step (f := fun _ => some (S, true)) (fun k => ?_) (Ev.now _)
      simp only [impl_RightUpTo.l0]
      rw [hw, if_neg hge, sort_up hI (by omega)]
      rfl
  induction d with
  | zero =>
    intro m S U hm h2 hI hl
    obtain rfl : m = 72 := by omega
    exact stop 72 S U (Nat.le_refl _) h2 hI hl (by omega)
  | succ d ih =>
    intro m S U hm h2 hI hl
    by_cases hge : (m : Int) * m < most
    · have am := mulb (show (0 : Int) ≤ m by omega) (show (m : Int) ≤ 100 by omega) (show (0 : Int) ≤ m by omega) (show (m : Int) ≤ 100 by omega)
      have hw : wrap64 ((m : Int) * m) = (m : Int) * m := wrap_id (by omega) (by omega)
      obtain ⟨S', U', i1, i2, i3, i4⟩ := up_1 most hmo m h2 (by omega) (m - 1) 1 S U (by omega) (Nat.le_refl _) hI (by omega)
      obtain ⟨r, r1, r2, r3, r4⟩ := ih (m + 1) S' U' (by omega) (by omega) i1 (by omega)
      refine ⟨r, ?_, ?_, r3, r4⟩
      · refine Ev.step (f := fun k => spec_riUpTo.l1 k most S (m : Int) 1) (fun k => ?_) (i3 r r1)
        simp only [spec_riUpTo.l0]
        rw [hw, if_pos hge]
      · refine Ev.step (f := fun k => impl_RightUpTo.l1 k most U (m : Int) 1) (fun k => ?_) (i4 (r, true) r2)
        simp only [impl_RightUpTo.l0]
        rw [hw, if_pos hge]
    · exact stop m S U (by omega) h2 hI hl hge
theorem right_both (a0 : Int) : ∃ (r : List (List Int)) (b : Bool), Ev (fun k => spec_RightUpTo.f k a0) (r, b) ∧ Ev (fun k => impl_RightUpTo.f k a0) (r, b) ∧ r.length ≤ 10000 ∧ (∀ x ∈ r, x.length = 3) ∧ Ev (fun k => spec_CountRight.f k a0) ((r.length : Int), b) := by
  by_cases h : 0 ≤ a0 ∧ a0 ≤ 5000
  · obtain ⟨r, e1, e2, e3, e4⟩ := up_0 a0 h.2 70 2 [] [] rfl (Nat.le_refl _) ⟨List.Perm.refl _, List.Pairwise.nil, by simp⟩ (by simp)
    refine ⟨r, true, ?_, ?_, e3, e4, ?_⟩
    · unfold spec_RightUpTo.f
      simp only [l1In_f, inB_of h, Option.bind_some, if_true]
      exact Ev.bind (f := fun k (t : List (List Int)) => some (t, true)) (by unfold spec_riUpTo.f; exact e1) (Ev.now _)
    · unfold impl_RightUpTo.f
      simp only [within_f, inB_of h, Option.bind_some, if_true]
      exact e2
    · unfold spec_CountRight.f
      simp only [l1In_f, inB_of h, Option.bind_some, if_true]
      exact Ev.bind (f := fun k (t : List (List Int)) => some ((t.length : Int), true)) (by unfold spec_riUpTo.f; exact e1) (Ev.now _)
  · refine ⟨[], false, ?_, ?_, by simp, by simp, ?_⟩
    · unfold spec_RightUpTo.f
      simp only [l1In_f, inB_not h, Option.bind_some, Bool.false_eq_true, if_false]
      exact Ev.now _
    · unfold impl_RightUpTo.f
      simp only [within_f, inB_not h, Option.bind_some, Bool.false_eq_true, if_false]
      exact Ev.now _
    · unfold spec_CountRight.f
      simp only [l1In_f, inB_not h, Option.bind_some, Bool.false_eq_true, if_false]
      exact Ev.now _

end Go.Proofs.Ytmjgklpccdigfaa.P
