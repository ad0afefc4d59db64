import Derived.Test.YtmjgklpccdigfaaP1
import Derived.Test.YtmjgklpccdigfaaP2
import Derived.Test.YtmjgklpccdigfaaP5
import Derived.Test.YtmjgklpccdigfaaP8
import Derived.Test.YtmjgklpccdigfaaP14
import Derived.Test.YtmjgklpccdigfaaP15
import Derived.Test.YtmjgklpccdigfaaP16
import Derived.Test.YtmjgklpccdigfaaP17
import Derived.Test.YtmjgklpccdigfaaP19
import Derived.Test.YtmjgklpccdigfaaP20
namespace Go.Proofs.Ytmjgklpccdigfaa.P
open Go.RowKit Go.Proofs.YtmjgklpccdigfaaW.PrintWords Go.Proofs.YtmjgklpccdigfaaW.PrintLast Go.Proofs.YtmjgklpccdigfaaW.PrintMore
theorem wrap_id {x : Int} (h0 : -9223372036854775808 ≤ x) (h1 : x ≤ 9223372036854775807) : wrap64 x = x := by unfold wrap64; omega
theorem rdi_at {l : List Int} {i : Nat} (h : i < l.length) : rd l (i : Int) = l[i] := by simp [rd, List.getD_eq_getElem?_getD, List.getElem?_eq_getElem h]
theorem mulb {a b A B : Int} (h0 : 0 ≤ a) (h1 : a ≤ A) (h2 : 0 ≤ b) (h3 : b ≤ B) : 0 ≤ a * b ∧ a * b ≤ A * B :=
  ⟨Int.mul_nonneg h0 h2, Int.mul_le_mul h1 h3 h2 (by omega)⟩
theorem l1In_f (x lo hi : Int) : spec_l1In.f x lo hi = some (inB lo hi x) := by
  unfold spec_l1In.f inB
  by_cases h : x ≥ lo
  · rw [if_pos h]; simp [show lo ≤ x from h]
  · rw [if_neg h]; simp [show ¬ lo ≤ x from h]
theorem inB_iff {lo hi x : Int} : inB lo hi x = true ↔ lo ≤ x ∧ x ≤ hi := by simp [inB]
theorem inB_of {lo hi x : Int} (h : lo ≤ x ∧ x ≤ hi) : inB lo hi x = true := inB_iff.2 h
theorem inB_not {lo hi x : Int} (h : ¬ (lo ≤ x ∧ x ≤ hi)) : inB lo hi x = false := by
  cases e : inB lo hi x with
  | false => rfl
  | true => exact absurd (inB_iff.1 e) h
theorem Ev.all {α : Type} {f : Option α} {r : α} (h : f = some r) : Ev (fun _ => f) r := ⟨0, fun _ _ => h⟩
theorem Ev.from {α : Type} {g : Nat → Option α} {r : α} (K : Nat) (h : ∀ k, K < k → g k = some r) : Ev g r := ⟨K + 1, fun k hk => h k (by omega)⟩
theorem toIntS_l (d : Nat) : ∀ (i k : Nat) (l x : List Int), i + d = l.length → x.length = l.length → x.take i = l.take i → d < k → (l.length : Int) ≤ 9223372036854775806 → laws_toIntS.l0 k l x (i : Int) = some l := by
  induction d with
  | zero =>
    intro i k l x hi hx ht hk hl
    obtain ⟨k, rfl⟩ : ∃ m, k = m + 1 := ⟨k - 1, by omega⟩
    simp only [laws_toIntS.l0]
    rw [if_neg (by omega)]
    rw [List.take_of_length_le (by omega), List.take_of_length_le (by omega)] at ht
    rw [ht]
  | succ d ih =>
    intro i k l x hi hx ht hk hl
    obtain ⟨k, rfl⟩ : ∃ m, k = m + 1 := ⟨k - 1, by omega⟩
    simp only [laws_toIntS.l0]
    rw [if_pos (by omega), if_pos (by omega), if_pos (by omega), wrap_id (by omega) (by omega)]
    have hr : rd l (i : Int) = l[i]'(by omega) := rdi_at (by omega)
    have := ih (i + 1) k l (x.set i (rd l (i : Int))) (by omega) (by simpa using hx) ?_ (by omega) hl
    · simp only [Int.toNat_natCast]
      rw [show ((i : Int) + 1) = ((i + 1 : Nat) : Int) by omega]
      exact this
    · rw [List.take_succ_eq_append_getElem (by simp; omega), List.take_succ_eq_append_getElem (by omega), List.take_set, List.set_eq_of_length_le (by simp; omega), ht]
      simp [hr]
theorem toIntS_f (l : List Int) (hl : l.length ≤ 35184372088832) (k : Nat) (hk : l.length < k) : laws_toIntS.f k l = some l := by
  unfold laws_toIntS.f
  rw [if_pos (by omega), if_pos (by omega)]
  exact toIntS_l l.length 0 k l _ (by omega) (by simp) (by simp) hk (by omega)
theorem toIntS_ev (l : List Int) (hl : l.length ≤ 35184372088832) : Ev (fun k => laws_toIntS.f k l) l := Ev.from l.length (fun k hk => toIntS_f l hl k hk)
theorem eqIntS_ev (l : List Int) (hl : (l.length : Int) ≤ 9223372036854775806) : Ev (fun k => laws_eqIntS.f k l l) true := Ev.from l.length (fun k hk => eqIntS_refl l hl k hk)

theorem l1All_l (lo hi : Int) (l : List Int) (hl : (l.length : Int) ≤ 9223372036854775806) (d : Nat) : ∀ (i k : Nat), i + d = l.length → d < k → spec_l1All.l0 k lo hi l (l.length : Int) (i : Int) = some ((l.drop i).all (inB lo hi)) := by
  induction d with
  | zero =>
    intro i k hi' hk
    obtain ⟨k, rfl⟩ : ∃ m, k = m + 1 := ⟨k - 1, by omega⟩
    simp only [spec_l1All.l0]
    rw [if_neg (by omega), List.drop_of_length_le (by omega)]
    rfl
  | succ d ih =>
    intro i k hi' hk
    obtain ⟨k, rfl⟩ : ∃ m, k = m + 1 := ⟨k - 1, by omega⟩
    have hil : i < l.length := by omega
    simp only [spec_l1All.l0]
    rw [if_pos (by omega), if_pos (by omega), if_pos (by omega), l1In_f, rdi_at hil, wrap_id (by omega) (by omega)]
    simp only [Option.bind_some]
    rw [List.drop_eq_getElem_cons hil, List.all_cons]
    cases inB lo hi l[i] with
    | false => simp
    | true =>
      simp only [if_true, Bool.true_and]
      exact ih (i + 1) k (by omega) (by omega)
theorem l1All_ev (lo hi : Int) (l : List Int) (hl : (l.length : Int) ≤ 9223372036854775806) : Ev (fun k => spec_l1All.f k l lo hi) (l.all (inB lo hi)) :=
  Ev.from l.length (fun k hk => by
    have := l1All_l lo hi l hl l.length 0 k (by omega) hk
    simpa [spec_l1All.f] using this)

theorem tmod_nat (a b : Nat) : Int.tmod (a : Int) (b : Int) = ((a % b : Nat) : Int) := by
  rw [Int.tmod_eq_emod_of_nonneg (by omega)]
  norm_cast
theorem foGcd_ev (b : Nat) : ∀ a : Nat, (a : Int) ≤ 9223372036854775807 → (b : Int) ≤ 9223372036854775807 → Ev (fun k => spec_foGcd.f k (a : Int) (b : Int)) ((Nat.gcd a b : Nat) : Int) := by
  induction b using Nat.strongRecOn with
  | _ b ih =>
    intro a ha hb
    rcases Nat.eq_zero_or_pos b with h0 | h0
    · subst h0
      refine Ev.step (f := fun _ => some (a : Int)) (fun k => ?_) (by rw [Nat.gcd_zero_right]; exact Ev.now _)
      simp only [spec_foGcd.f]
      rw [if_pos (show ((0 : Nat) : Int) = 0 from rfl)]
      unfold spec_l1Abs.f spec_l1Most.f
      rw [wrap_id (by omega) (by omega)]
      by_cases h : (a : Int) > -(a : Int)
      · rw [if_pos h]; rfl
      · rw [if_neg h, show -(a : Int) = (a : Int) by omega]; rfl
    · have hlt : a % b < b := Nat.mod_lt _ h0
      have := ih (a % b) hlt b hb (by omega)
      refine Ev.step (f := fun k => (spec_foGcd.f k (b : Int) ((a % b : Nat) : Int)).bind fun t => some t) (fun k => ?_) ?_
      · simp only [spec_foGcd.f]
        rw [if_neg (by omega), tmod_nat]
      · rw [Nat.gcd_comm a b, Nat.gcd_rec b a, Nat.gcd_comm (a % b) b]
        exact Ev.bind this (Ev.now _)
theorem markIntS_ev (l : List Int) (hl : (l.length : Int) ≤ 4611686018427387904) : Ev (fun k => laws_markIntS.f k l 1) (1 + (l.length : Int), mkI 1 l.length) := Ev.from l.length (fun k hk => markIntS_f l 1 k hk (by omega) (by omega) (by omega))
theorem heldIntS_ev (n : Nat) (hn : (n : Int) ≤ 4611686018427387904) : Ev (fun k => laws_heldIntS.f k (mkI 1 n) 1) (1 + (n : Int)) := Ev.from n (fun k hk => heldIntS_f 1 n k hk (by omega) (by omega) (by omega))

/-- A pair of numbers that makes a right triple. -/
def PairP (m n : Nat) : Prop := 1 ≤ n ∧ n < m ∧ (m + n) % 2 = 1 ∧ Nat.gcd m n = 1
theorem riOf_nat (m n : Nat) (hm : m ≤ 100000) (hn : n ≤ 100000) : spec_riOf.f (m : Int) (n : Int) = some [(m : Int) * m - (n : Int) * n, 2 * (m : Int) * n, (m : Int) * m + (n : Int) * n] := by
  have a := mulb (show (0 : Int) ≤ m by omega) (show (m : Int) ≤ 100000 by omega) (show (0 : Int) ≤ m by omega) (show (m : Int) ≤ 100000 by omega)
  have b := mulb (show (0 : Int) ≤ n by omega) (show (n : Int) ≤ 100000 by omega) (show (0 : Int) ≤ n by omega) (show (n : Int) ≤ 100000 by omega)
  have c := mulb (show (0 : Int) ≤ 2 * m by omega) (show 2 * (m : Int) ≤ 200000 by omega) (show (0 : Int) ≤ n by omega) (show (n : Int) ≤ 100000 by omega)
  unfold spec_riOf.f
  rw [wrap_id (x := (m : Int) * m) (by omega) (by omega), wrap_id (x := (n : Int) * n) (by omega) (by omega), wrap_id (x := 2 * (m : Int)) (by omega) (by omega), wrap_id (x := 2 * (m : Int) * n) (by omega) (by omega), wrap_id (x := (m : Int) * m - (n : Int) * n) (by omega) (by omega), wrap_id (x := (m : Int) * m + (n : Int) * n) (by omega) (by omega)]
def tri (m n : Nat) : List Int := [(m : Int) * m - (n : Int) * n, 2 * (m : Int) * n, (m : Int) * m + (n : Int) * n]
def PairOk (m n : Nat) : Prop := PairP m n ∧ m * m + n * n ≤ 1000000000
theorem PairOk.le {m n : Nat} (h : PairOk m n) : m ≤ 31622 ∧ n ≤ 31622 := by
  have h1 : m ≤ 31622 := by
    rcases Nat.lt_or_ge 31622 m with h1 | h1
    · have := Nat.mul_le_mul h1 h1
      have := h.2
      omega
    · exact h1
  have := h.1.2.1
  omega
theorem natMul2 (m n : Nat) : ((2 * m * n : Nat) : Int) = 2 * (m : Int) * n := by push_cast; rfl
/-- The test of a pair. -/
theorem riPair_ev (a b : Int) (ha : -9223372036854775807 ≤ a ∧ a ≤ 9223372036854775807) (hb : -9223372036854775807 ≤ b ∧ b ≤ 9223372036854775807) :
    ∃ t, Ev (fun k => spec_riPair.f k a b) t ∧ (t = true ↔ ∃ m n : Nat, a = m ∧ b = n ∧ PairOk m n) := by
  by_cases h1 : 2 ≤ a ∧ a ≤ 31623
  · by_cases h2 : 1 ≤ b ∧ b ≤ a - 1
    · obtain ⟨m, rfl⟩ : ∃ m : Nat, a = m := ⟨a.toNat, by omega⟩
      obtain ⟨n, rfl⟩ : ∃ n : Nat, b = n := ⟨b.toNat, by omega⟩
      have hg := foGcd_ev n m (by omega) (by omega)
      have A := mulb (show (0 : Int) ≤ m by omega) h1.2 (show (0 : Int) ≤ m by omega) h1.2
      have B := mulb (show (0 : Int) ≤ n by omega) (show (n : Int) ≤ 31623 by omega) (show (0 : Int) ≤ n by omega) (show (n : Int) ≤ 31623 by omega)
      have hodd : (Int.tmod (wrap64 ((m : Int) + n)) 2 = 1) ↔ (m + n) % 2 = 1 := by
        rw [wrap_id (by omega) (by omega), Int.tmod_eq_emod_of_nonneg (by omega)]
        omega
      have huniq : (∃ m' n' : Nat, (m : Int) = m' ∧ (n : Int) = n' ∧ PairOk m' n') ↔ PairOk m n := by
        constructor
        · rintro ⟨m', n', e1, e2, h⟩
          rw [show m = m' by omega, show n = n' by omega]
          exact h
        · exact fun h => ⟨m, n, rfl, rfl, h⟩
      rw [huniq]
      by_cases h3 : (m + n) % 2 = 1
      · by_cases h4 : Nat.gcd m n = 1
        · refine ⟨decide (m * m + n * n ≤ 1000000000), ?_, ?_⟩
          · unfold spec_riPair.f
            simp only [l1In_f, Option.bind_some]
            rw [wrap_id (x := (m : Int) - 1) (by omega) (by omega), inB_of h1, inB_of h2]
            simp only [if_true, if_pos (hodd.2 h3)]
            refine Ev.bind hg ?_
            rw [h4, wrap_id (x := (m : Int) * m) (by omega) (by omega), wrap_id (x := (n : Int) * n) (by omega) (by omega), wrap_id (x := (m : Int) * m + (n : Int) * n) (by omega) (by omega)]
            simp only [Int.cast_ofNat_Int, if_true]
            rw [show (decide ((m : Int) * m + (n : Int) * n ≤ 1000000000)) = decide (m * m + n * n ≤ 1000000000) from by
              by_cases g : m * m + n * n ≤ 1000000000
              · rw [decide_eq_true g, decide_eq_true (by omega)]
              · rw [decide_eq_false g, decide_eq_false (by omega)]]
            exact Ev.now _
          · rw [decide_eq_true_iff]
            exact ⟨fun h => ⟨⟨by omega, by omega, h3, h4⟩, h⟩, fun h => h.2⟩
        · refine ⟨false, ?_, ⟨fun h => absurd h (by decide), fun h => absurd h.1.2.2.2 h4⟩⟩
          unfold spec_riPair.f
          simp only [l1In_f, Option.bind_some]
          rw [wrap_id (x := (m : Int) - 1) (by omega) (by omega), inB_of h1, inB_of h2]
          simp only [if_true, if_pos (hodd.2 h3)]
          refine Ev.bind hg ?_
          simp only [if_neg (show ¬ (((Nat.gcd m n : Nat) : Int) = 1) by omega)]
          exact Ev.now _
      · refine ⟨false, ?_, ⟨fun h => absurd h (by decide), fun h => absurd h.1.2.2.1 h3⟩⟩
        unfold spec_riPair.f
        simp only [l1In_f, Option.bind_some]
        rw [wrap_id (x := (m : Int) - 1) (by omega) (by omega), inB_of h1, inB_of h2]
        simp only [if_true, if_neg (fun h => h3 (hodd.1 h))]
        exact Ev.now _
    · refine ⟨false, ?_, ⟨fun h => absurd h (by decide), ?_⟩⟩
      · unfold spec_riPair.f
        simp only [l1In_f, Option.bind_some]
        rw [wrap_id (x := a - 1) (by omega) (by omega), inB_of h1, inB_not h2]
        simp only [if_true, Bool.false_eq_true, if_false]
        exact Ev.now _
      · rintro ⟨m, n, rfl, rfl, h⟩
        have := h.1
        exact absurd ⟨by have := this.1; omega, by have := this.2.1; omega⟩ h2
  · refine ⟨false, ?_, ⟨fun h => absurd h (by decide), ?_⟩⟩
    · unfold spec_riPair.f
      simp only [l1In_f, Option.bind_some]
      rw [inB_not h1]
      simp only [Bool.false_eq_true, if_false]
      exact Ev.now _
    · rintro ⟨m, n, rfl, rfl, h⟩
      have h5 := h.le
      exact absurd ⟨by have := h.1.1; have := h.1.2.1; omega, by omega⟩ h1
theorem cop_of {m n a b : Nat} (h : Nat.gcd m n = 1) (hd : ∀ g, g ∣ a → g ∣ b → g ∣ m ∧ g ∣ n) : Nat.gcd a b = 1 := by
  have := hd _ (Nat.gcd_dvd_left a b) (Nat.gcd_dvd_right a b)
  have := Nat.dvd_gcd this.1 this.2
  rw [h] at this
  exact Nat.eq_one_of_dvd_one this
theorem dvd_of_eq {g a b c : Nat} (e : a = b + c) (ha : g ∣ a) (hb : g ∣ b) : g ∣ c := (Nat.dvd_add_right hb).1 (e ▸ ha)
theorem dvd_two {g a n : Nat} (ha : g ∣ a) (h : a % 2 = 1) (hn : g ∣ 2 * n) : g ∣ n := by
  refine Nat.Coprime.dvd_of_dvd_mul_left ?_ hn
  have e1 := Nat.gcd_dvd_left g 2
  have e2 := Nat.gcd_dvd_right g 2
  have e3 := Nat.dvd_trans e1 ha
  have e4 := Nat.le_of_dvd (by omega) e2
  have e5 : Nat.gcd g 2 ≠ 2 := by
    intro e
    rw [e] at e3
    omega
  have e6 : Nat.gcd g 2 ≠ 0 := by
    intro e
    rw [e] at e2
    omega
  show Nat.gcd g 2 = 1
  omega
theorem wid {x : Int} (h : -1000000000000 ≤ x ∧ x ≤ 1000000000000) : wrap64 x = x := wrap_id (by omega) (by omega)
def triIf (m n : Nat) : List Int × Bool := if m * m + n * n ≤ 1000000000 then (tri m n, true) else ([], false)
theorem triIf_pos {m n : Nat} (h : m * m + n * n ≤ 1000000000) : triIf m n = (tri m n, true) := if_pos h
theorem triIf_neg {m n : Nat} (h : ¬ m * m + n * n ≤ 1000000000) : triIf m n = ([], false) := if_neg h
theorem pair_right {m n : Nat} (h : PairP m n) (hm : m ≤ 100000) : impl_pair_right.f (m : Int) (n : Int) = some (triIf m n) := by
  have h1 := h.1
  have h2 := h.2.1
  have e1 : ((m * m : Nat) : Int) = (m : Int) * m := by push_cast; rfl
  have e2 : ((n * n : Nat) : Int) = (n : Int) * n := by push_cast; rfl
  have e3 : ((2 * m * n : Nat) : Int) = 2 * (m : Int) * n := natMul2 m n
  have a := Nat.mul_le_mul hm hm
  have b := Nat.mul_le_mul (show n ≤ 100000 by omega) (show n ≤ 100000 by omega)
  have c := Nat.mul_le_mul (show 2 * m ≤ 200000 by omega) (show n ≤ 100000 by omega)
  unfold impl_pair_right.f
  rw [wid (x := (m : Int) * m) (by omega), wid (x := (n : Int) * n) (by omega), wid (x := 2 * (m : Int)) (by omega), wid (x := 2 * (m : Int) * n) (by omega), wid (x := (m : Int) * m - (n : Int) * n) (by omega), wid (x := (m : Int) * m + (n : Int) * n) (by omega)]
  by_cases h4 : (m : Int) > 40000
  · have := Nat.mul_le_mul (show 40000 ≤ m by omega) (show 40000 ≤ m by omega)
    rw [if_pos h4, triIf_neg (by omega)]
  · rw [if_neg h4]
    by_cases h5 : m * m + n * n ≤ 1000000000
    · rw [if_neg (by omega), triIf_pos h5]
      rfl
    · rw [if_pos (by omega), triIf_neg h5]
theorem riPair_nat {m n : Nat} (h : PairP m n) (hm : m ≤ 100000) : Ev (fun k => spec_riPair.f k (m : Int) (n : Int)) (decide (m * m + n * n ≤ 1000000000)) := by
  have := h.2.1
  obtain ⟨t, ht, hti⟩ := riPair_ev m n (by omega) (by omega)
  have e : t = decide (m * m + n * n ≤ 1000000000) := by
    rw [Bool.eq_iff_iff, hti, decide_eq_true_iff]
    constructor
    · rintro ⟨m', n', e1, e2, hp⟩
      have := hp.2
      rw [show m = m' by omega, show n = n' by omega]
      exact this
    · exact fun hs => ⟨m, n, rfl, rfl, h, hs⟩
  exact e ▸ ht
theorem tri_ok {m n : Nat} (h : PairOk m n) : triIf m n = (tri m n, true) := triIf_pos h.2
/-- What a step down gives, in both texts. -/
def Steps (sf cf : Int → Int → Int → Option (Int × Int)) : Prop := ∀ (m n : Nat) (c : Int), PairP m n → m ≤ 31622 → 0 ≤ c → c ≤ 2 → ∃ a b : Nat, PairP a b ∧ a ≤ 100000 ∧ sf m n c = some ((a : Int), (b : Int)) ∧ cf m n c = some ((a : Int), (b : Int))
theorem pair_eq {a b c d : Int} (h : a = c) (k : b = d) : some (a, b) = some (c, d) := by rw [h, k]
theorem three_codes {c : Int} (h0 : 0 ≤ c) (h2 : c ≤ 2) : c = 0 ∨ c = 1 ∨ c = 2 := by omega
theorem price_steps : Steps spec_riPrice.f impl_price_1.f := by
  intro m n c h hm h0 h2
  obtain ⟨h1, hlt, hp, hg⟩ := h
  rcases three_codes h0 h2 with rfl | rfl | rfl
  · refine ⟨m + n, 2 * n, ⟨by omega, by omega, by omega, cop_of hg fun g ga gb => ?_⟩, by omega, ?_, ?_⟩
    · have := dvd_two ga hp gb
      exact ⟨dvd_of_eq (show m + n = n + m by omega) ga this, this⟩
    · show some (_, _) = _
      rw [wid (x := 2 * (n : Int)) (by omega), wid (by omega)]
      exact pair_eq (by omega) (by omega)
    · show some (wrap64 ((m : Int) + n), wrap64 (2 * (n : Int))) = _
      rw [wid (x := 2 * (n : Int)) (by omega), wid (by omega)]
      exact pair_eq (by omega) (by omega)
  · refine ⟨2 * m, m - n, ⟨by omega, by omega, by omega, cop_of hg fun g ga gb => ?_⟩, by omega, ?_, ?_⟩
    · have := dvd_two gb (by omega) ga
      exact ⟨this, dvd_of_eq (show m = (m - n) + n by omega) this gb⟩
    · show some (_, _) = _
      rw [wid (x := 2 * (m : Int)) (by omega), wid (by omega)]
      exact pair_eq (by omega) (by omega)
    · show some (wrap64 (2 * (m : Int)), wrap64 ((m : Int) - n)) = _
      rw [wid (x := 2 * (m : Int)) (by omega), wid (by omega)]
      exact pair_eq (by omega) (by omega)
  · refine ⟨2 * m, m + n, ⟨by omega, by omega, by omega, cop_of hg fun g ga gb => ?_⟩, by omega, ?_, ?_⟩
    · have := dvd_two gb (by omega) ga
      exact ⟨this, dvd_of_eq rfl gb this⟩
    · show some (_, _) = _
      rw [wid (x := 2 * (m : Int)) (by omega), wid (by omega)]
      exact pair_eq (by omega) (by omega)
    · show some (wrap64 (2 * (m : Int)), wrap64 ((m : Int) + n)) = _
      rw [wid (x := 2 * (m : Int)) (by omega), wid (by omega)]
      exact pair_eq (by omega) (by omega)
/-- a way down -/
theorem ways {sf cf : Int → Int → Int → Option (Int × Int)} (H : Steps sf cf) (l : List Int) (hl : l.length ≤ 40) (hc : ∀ c ∈ l, 0 ≤ c ∧ c ≤ 2) (S : Nat → Int → Int → List Int → Int → Int → Option (List Int × Bool))
    (hS : ∀ k m n y z i, S (k + 1) m n y z i = if i < z then (if 0 ≤ i then (if i < (y.length : Int) then ((sf m n (rd y i)).bind fun q => ((spec_riPair.f k q.1 q.2).bind fun t => (if t = true then (S k q.1 q.2 y z (wrap64 (i + 1))) else (some (([] : List Int), false))))) else (none)) else (none)) else ((spec_riOf.f m n).bind fun t => (some (t, true)))) :
    ∀ (d i m n : Nat), i + d = l.length → PairOk m n → ∃ r : List Int × Bool, r.1.length ≤ 3 ∧ Ev (fun k => S k m n l (l.length : Int) i) r ∧ Ev (fun k => rightL cf l k i m n) r := by
  intro d
  induction d with
  | zero =>
    intro i m n hi hp
    have := hp.le
    refine ⟨(tri m n, true), Nat.le_refl _, Ev.step (f := fun _ => some (tri m n, true)) (fun k => ?_) (Ev.now _), Ev.step (f := fun _ => some (tri m n, true)) (fun k => ?_) (Ev.now _)⟩
    · rw [hS, if_neg (by omega), riOf_nat m n (by omega) (by omega)]
      rfl
    · rw [rightL, if_neg (by omega), pair_right hp.1 (by omega), tri_ok hp]
  | succ d ih =>
    intro i m n hi hp
    have hil : i < l.length := by omega
    have hci := hc _ (List.getElem_mem hil)
    obtain ⟨a, b, hab, ha, e1, e2⟩ := H m n l[i] hp.1 hp.le.1 hci.1 hci.2
    by_cases hk : a * a + b * b ≤ 1000000000
    · obtain ⟨r, hr, h1, h2⟩ := ih (i + 1) a b (by omega) ⟨hab, hk⟩
      refine ⟨r, hr, Ev.step (f := fun k => (spec_riPair.f k a b).bind fun t => (if t = true then (S k a b l (l.length : Int) ((i + 1 : Nat) : Int)) else (some (([] : List Int), false)))) (fun k => ?_) ?_, Ev.step (f := fun k => rightL cf l k ((i + 1 : Nat) : Int) a b) (fun k => ?_) h2⟩
      · rw [hS, if_pos (by omega), if_pos (by omega), if_pos (by omega), rdi_at hil, e1, wrap_id (by omega) (by omega)]
        rfl
      · refine Ev.bind (riPair_nat hab ha) ?_
        simp only [decide_eq_true hk, if_true]
        exact h1
      · rw [rightL, if_pos (by omega), if_pos (by omega), rdi_at hil, e2, wrap_id (by omega) (by omega)]
        simp only [Option.bind_some, pair_right hab ha, triIf_pos hk, if_true]
        rfl
    · refine ⟨([], false), Nat.zero_le _, Ev.step (f := fun k => (spec_riPair.f k a b).bind fun t => (if t = true then (S k a b l (l.length : Int) ((i + 1 : Nat) : Int)) else (some (([] : List Int), false)))) (fun k => ?_) ?_, Ev.step (f := fun _ => some ([], false)) (fun k => ?_) (Ev.now _)⟩
      · rw [hS, if_pos (by omega), if_pos (by omega), if_pos (by omega), rdi_at hil, e1, wrap_id (by omega) (by omega)]
        rfl
      · refine Ev.bind (riPair_nat hab ha) ?_
        simp only [decide_eq_false hk, Bool.false_eq_true, if_false]
        exact Ev.now _
      · rw [rightL, if_pos (by omega), if_pos (by omega), rdi_at hil, e2]
        simp only [Option.bind_some, pair_right hab ha, triIf_neg hk, Bool.false_eq_true, if_false]
theorem waysF {sf cf : Int → Int → Int → Option (Int × Int)} (H : Steps sf cf) (S : Nat → Int → Int → List Int → Int → Int → Option (List Int × Bool))
    (hS : ∀ k m n y z i, S (k + 1) m n y z i = if i < z then (if 0 ≤ i then (if i < (y.length : Int) then ((sf m n (rd y i)).bind fun q => ((spec_riPair.f k q.1 q.2).bind fun t => (if t = true then (S k q.1 q.2 y z (wrap64 (i + 1))) else (some (([] : List Int), false))))) else (none)) else (none)) else ((spec_riOf.f m n).bind fun t => (some (t, true))))
    (l : List Int) (hl : (l.length : Int) ≤ 9223372036854775806) : ∃ r : List Int × Bool, r.1.length ≤ 3 ∧ Ev (fun k => (spec_riWord.f k l).bind fun t => if t = true then (S k 2 1 l (l.length : Int) 0) else some (([] : List Int), false)) r ∧ Ev (fun k => rightF cf k l) r := by
  have ha := l1All_ev 0 2 l hl
  have hb : impl_allWithin.f l 0 2 = some (l.all (inB 0 2)) := rfl
  unfold rightF impl_isPath.f spec_riWord.f
  by_cases h40 : (l.length : Int) ≤ 40
  · simp only [if_pos h40, hb, Option.bind_some]
    by_cases hc : l.all (inB 0 2) = true
    · rw [hc] at ha
      obtain ⟨r, hr, h1, h2⟩ := ways H l (by omega) (fun c hm => inB_iff.1 (List.all_eq_true.1 hc c hm)) S hS l.length 0 2 1 (by omega) ⟨⟨by omega, by omega, by omega, by decide⟩, by omega⟩
      refine ⟨r, hr, Ev.bind (Ev.bind ha (Ev.now _)) ?_, ?_⟩
      · simp only [if_true]
        exact h1
      · simp only [hc, if_true]
        exact h2
    · rw [Bool.eq_false_iff.2 hc] at ha
      refine ⟨([], false), Nat.zero_le _, Ev.bind (Ev.bind ha (Ev.now _)) ?_, ?_⟩
      · simp only [Bool.false_eq_true, if_false]
        exact Ev.now _
      · simp only [if_neg hc]
        exact Ev.now _
  · refine ⟨([], false), Nat.zero_le _, ?_, ?_⟩
    · simp only [if_neg h40, Option.bind_some, Bool.false_eq_true, if_false]
      exact Ev.now _
    · simp only [if_neg h40, Option.bind_some, Bool.false_eq_true, if_false]
      exact Ev.now _
theorem priceRight (l : List Int) (hl : (l.length : Int) ≤ 9223372036854775806) : ∃ r : List Int × Bool, r.1.length ≤ 3 ∧ Ev (fun k => spec_RightByPrice.f k l) r ∧ Ev (fun k => impl_RightByPrice.f k l) r :=
  waysF price_steps spec_RightByPrice.l0 (fun _ _ _ _ _ _ => rfl) l hl

end Go.Proofs.Ytmjgklpccdigfaa.P
