import Derived.Test.YtmjgklpccdigfaaP1
import Derived.Test.YtmjgklpccdigfaaP2
import Derived.Test.YtmjgklpccdigfaaP3
import Derived.Test.YtmjgklpccdigfaaP5
import Derived.Test.YtmjgklpccdigfaaP6
import Derived.Test.YtmjgklpccdigfaaCm
import Derived.Test.YtmjgklpccdigfaaNt
namespace Go.Proofs.Ytmjgklpccdigfaa.P
open Go.RowKit Go.Proofs.YtmjgklpccdigfaaW.PrintWords Go.Proofs.YtmjgklpccdigfaaW.PrintLast Go.Proofs.YtmjgklpccdigfaaW.PrintMore
/-! Right triples: what both tests say. -/
theorem riOf_nat (m n : Nat) (hm : m ≤ 100000) (hn : n ≤ 100000) : spec_riOf.f (m : Int) (n : Int) = some [(m : Int) * m - (n : Int) * n, 2 * (m : Int) * n, (m : Int) * m + (n : Int) * n] := by
  have a := mulb (show (0 : Int) ≤ m by omega) (show (m : Int) ≤ 100000 by omega) (show (0 : Int) ≤ m by omega) (show (m : Int) ≤ 100000 by omega)
  have b := mulb (show (0 : Int) ≤ n by omega) (show (n : Int) ≤ 100000 by omega) (show (0 : Int) ≤ n by omega) (show (n : Int) ≤ 100000 by omega)
  have c := mulb (show (0 : Int) ≤ 2 * m by omega) (show 2 * (m : Int) ≤ 200000 by omega) (show (0 : Int) ≤ n by omega) (show (n : Int) ≤ 100000 by omega)
  unfold spec_riOf.f
  rw [wrap_id (x := (m : Int) * m) (by omega) (by omega), wrap_id (x := (n : Int) * n) (by omega) (by omega), wrap_id (x := 2 * (m : Int)) (by omega) (by omega), wrap_id (x := 2 * (m : Int) * n) (by omega) (by omega), wrap_id (x := (m : Int) * m - (n : Int) * n) (by omega) (by omega), wrap_id (x := (m : Int) * m + (n : Int) * n) (by omega) (by omega)]
def tri (m n : Nat) : List Int := [(m : Int) * m - (n : Int) * n, 2 * (m : Int) * n, (m : Int) * m + (n : Int) * n]
def PairOk (m n : Nat) : Prop := PairP m n ∧ m * m + n * n ≤ 1000000000
theorem PairOk.le {m n : Nat} (h : PairOk m n) : m ≤ 31622 ∧ n ≤ 31622 := by
  have h1 : m ≤ 31622 := by
    rcases Nat.lt_or_ge 31622 m with h1 | h1
    · have := Nat.mul_le_mul h1 h1
      have := h.2
      omega
    · exact h1
  have := h.1.2.1
  omega
theorem natSub {m n : Nat} (h : PairP m n) : ((m * m - n * n : Nat) : Int) = (m : Int) * m - (n : Int) * n := by
  have := Nat.mul_lt_mul_of_lt_of_lt h.2.1 h.2.1
  omega
theorem natMul2 (m n : Nat) : ((2 * m * n : Nat) : Int) = 2 * (m : Int) * n := by push_cast; rfl
/-- The test of a pair. -/
theorem riPair_ev (a b : Int) (ha : -9223372036854775807 ≤ a ∧ a ≤ 9223372036854775807) (hb : -9223372036854775807 ≤ b ∧ b ≤ 9223372036854775807) :
    ∃ t, Ev (fun k => spec_riPair.f k a b) t ∧ (t = true ↔ ∃ m n : Nat, a = m ∧ b = n ∧ PairOk m n) := by
  by_cases h1 : 2 ≤ a ∧ a ≤ 31623
  · by_cases h2 : 1 ≤ b ∧ b ≤ a - 1
    · obtain ⟨m, rfl⟩ : ∃ m : Nat, a = m := ⟨a.toNat, by omega⟩
      obtain ⟨n, rfl⟩ : ∃ n : Nat, b = n := ⟨b.toNat, by omega⟩
      have hg := foGcd_ev n m (by omega) (by omega)
      have A := mulb (show (0 : Int) ≤ m by omega) h1.2 (show (0 : Int) ≤ m by omega) h1.2
      have B := mulb (show (0 : Int) ≤ n by omega) (show (n : Int) ≤ 31623 by omega) (show (0 : Int) ≤ n by omega) (show (n : Int) ≤ 31623 by omega)
      have hodd : (Int.tmod (wrap64 ((m : Int) + n)) 2 = 1) ↔ (m + n) % 2 = 1 := by
        rw [wrap_id (by omega) (by omega), Int.tmod_eq_emod_of_nonneg (by omega)]
        omega
      have huniq : (∃ m' n' : Nat, (m : Int) = m' ∧ (n : Int) = n' ∧ PairOk m' n') ↔ PairOk m n := by
        constructor
        · rintro ⟨m', n', e1, e2, h⟩
          rw [show m = m' by omega, show n = n' by omega]
          exact h
        · exact fun h => ⟨m, n, rfl, rfl, h⟩
      rw [huniq]
      by_cases h3 : (m + n) % 2 = 1
      · by_cases h4 : Nat.gcd m n = 1
        · refine ⟨decide (m * m + n * n ≤ 1000000000), ?_, ?_⟩
          · unfold spec_riPair.f
            simp only [l1In_f, Option.bind_some]
            rw [wrap_id (x := (m : Int) - 1) (by omega) (by omega), inB_of h1, inB_of h2]
            simp only [if_true, if_pos (hodd.2 h3)]
            refine Ev.bind hg ?_
            rw [h4, wrap_id (x := (m : Int) * m) (by omega) (by omega), wrap_id (x := (n : Int) * n) (by omega) (by omega), wrap_id (x := (m : Int) * m + (n : Int) * n) (by omega) (by omega)]
            simp only [Int.cast_ofNat_Int, if_true]
            rw [show (decide ((m : Int) * m + (n : Int) * n ≤ 1000000000)) = decide (m * m + n * n ≤ 1000000000) from by
              by_cases g : m * m + n * n ≤ 1000000000
              · rw [decide_eq_true g, decide_eq_true (by omega)]
              · rw [decide_eq_false g, decide_eq_false (by omega)]]
            exact Ev.now _
          · rw [decide_eq_true_iff]
            exact ⟨fun h => ⟨⟨by omega, by omega, h3, h4⟩, h⟩, fun h => h.2⟩
        · refine ⟨false, ?_, ⟨fun h => absurd h (by decide), fun h => absurd h.1.2.2.2 h4⟩⟩
          unfold spec_riPair.f
          simp only [l1In_f, Option.bind_some]
          rw [wrap_id (x := (m : Int) - 1) (by omega) (by omega), inB_of h1, inB_of h2]
          simp only [if_true, if_pos (hodd.2 h3)]
          refine Ev.bind hg ?_
          simp only [if_neg (show ¬ (((Nat.gcd m n : Nat) : Int) = 1) by omega)]
          exact Ev.now _
      · refine ⟨false, ?_, ⟨fun h => absurd h (by decide), fun h => absurd h.1.2.2.1 h3⟩⟩
        unfold spec_riPair.f
        simp only [l1In_f, Option.bind_some]
        rw [wrap_id (x := (m : Int) - 1) (by omega) (by omega), inB_of h1, inB_of h2]
        simp only [if_true, if_neg (fun h => h3 (hodd.1 h))]
        exact Ev.now _
    · refine ⟨false, ?_, ⟨fun h => absurd h (by decide), ?_⟩⟩
      · unfold spec_riPair.f
        simp only [l1In_f, Option.bind_some]
        rw [wrap_id (x := a - 1) (by omega) (by omega), inB_of h1, inB_not h2]
        simp only [if_true, Bool.false_eq_true, if_false]
        exact Ev.now _
      · rintro ⟨m, n, rfl, rfl, h⟩
        have := h.1
        exact absurd ⟨by have := this.1; omega, by have := this.2.1; omega⟩ h2
  · refine ⟨false, ?_, ⟨fun h => absurd h (by decide), ?_⟩⟩
    · unfold spec_riPair.f
      simp only [l1In_f, Option.bind_some]
      rw [inB_not h1]
      simp only [Bool.false_eq_true, if_false]
      exact Ev.now _
    · rintro ⟨m, n, rfl, rfl, h⟩
      have h5 := h.le
      exact absurd ⟨by have := h.1.1; have := h.1.2.1; omega, by omega⟩ h1
def RightL (l : List Int) : Prop := ∃ m n : Nat, PairOk m n ∧ l = tri m n
theorem tri_bounds {m n : Nat} (h : PairOk m n) : (tri m n).all (inB 1 1000000000) = true ∧ (m : Int) * m - (n : Int) * n < (m : Int) * m + (n : Int) * n := by
  have r := nt_right h.1
  have e1 := natSub h.1
  have e2 := natMul2 m n
  have hs := h.2
  have h3 : (2 * m * n) * (2 * m * n) ≤ (m * m + n * n) * (m * m + n * n) := by omega
  have h4 : 2 * m * n ≤ m * m + n * n := by
    rcases Nat.lt_or_ge (m * m + n * n) (2 * m * n) with g | g
    · have := Nat.mul_lt_mul_of_lt_of_lt g g; omega
    · exact g
  have hn : 1 ≤ n * n := Nat.mul_pos h.1.1 h.1.1
  simp only [tri, List.all_cons, List.all_nil, Bool.and_true, Bool.and_eq_true, inB_iff]
  omega
theorem right_iff {x y z : Int} : RightL [x, y, z] ↔ ((1 ≤ x ∧ x ≤ 1000000000) ∧ (1 ≤ y ∧ y ≤ 1000000000) ∧ (1 ≤ z ∧ z ≤ 1000000000)) ∧ x % 2 = 1 ∧ y % 2 = 0 ∧ Nat.gcd x.toNat y.toNat = 1 ∧ x * x + y * y = z * z := by
  constructor
  · rintro ⟨m, n, h, e⟩
    have hb := (tri_bounds h).1
    rw [← e] at hb
    simp only [List.all_cons, List.all_nil, Bool.and_true, Bool.and_eq_true, inB_iff] at hb
    have r := nt_right h.1
    have e1 := natSub h.1
    have e2 := natMul2 m n
    simp only [tri, List.cons.injEq, and_true] at e
    obtain ⟨ex, ey, ez⟩ := e
    refine ⟨hb, by omega, by omega, ?_, ?_⟩
    · rw [show x.toNat = m * m - n * n by omega, show y.toNat = 2 * m * n by omega]
      exact r.2.2.2.2.1
    · have h6 := r.2.2.2.2.2
      have h7 : (((m * m - n * n : Nat) : Int) * ((m * m - n * n : Nat) : Int) + ((2 * m * n : Nat) : Int) * ((2 * m * n : Nat) : Int)) = ((m * m + n * n : Nat) : Int) * ((m * m + n * n : Nat) : Int) := by exact_mod_cast h6
      rw [ex, ey, ez, ← e1, ← e2]
      have e3 : ((m * m + n * n : Nat) : Int) = (m : Int) * m + (n : Int) * n := by push_cast; rfl
      rw [← e3]
      exact h7
  · rintro ⟨⟨hx, hy, hz⟩, hx2, hy2, hg, he⟩
    obtain ⟨a, rfl⟩ : ∃ a : Nat, x = a := ⟨x.toNat, by omega⟩
    obtain ⟨b, rfl⟩ : ∃ b : Nat, y = b := ⟨y.toNat, by omega⟩
    obtain ⟨c, rfl⟩ : ∃ c : Nat, z = c := ⟨z.toNat, by omega⟩
    have he' : a * a + b * b = c * c := by exact_mod_cast he
    simp only [Int.toNat_natCast] at hg
    obtain ⟨m, n, hp, _, _, h1, h2, h3⟩ := nt_pair (by omega) (by omega) (by omega) (by omega) hg he'
    have e1 := natSub hp
    have e2 := natMul2 m n
    refine ⟨m, n, ⟨hp, by omega⟩, ?_⟩
    simp only [tri, List.cons.injEq, and_true]
    refine ⟨by omega, by omega, by omega⟩
theorem three {l : List Int} (h : l.length = 3) : ∃ x y z, l = [x, y, z] := by
  match l, h with
  | [x, y, z], _ => exact ⟨x, y, z, rfl⟩
theorem rd0 (x y z : Int) : rd [x, y, z] 0 = x := Eq.trans rfl rfl
theorem rd1 (x y z : Int) : rd [x, y, z] 1 = y := Eq.trans rfl rfl
theorem rd2 (x y z : Int) : rd [x, y, z] 2 = z := Eq.trans rfl rfl
theorem right_len {l : List Int} (h : RightL l) : l.length = 3 := by
  obtain ⟨m, n, _, rfl⟩ := h
  rfl
/-- The program's test. -/
theorem impl_right (l : List Int) : ∃ t, Ev (fun k => impl_IsRight.f k l) t ∧ (t = true ↔ RightL l) := by
  by_cases hl : l.length = 3
  · obtain ⟨x, y, z, rfl⟩ := three hl
    rw [right_iff]
    unfold impl_IsRight.f impl_allWithin.f
    simp only [rd0, rd1, rd2, Option.bind_some, List.length_cons, List.length_nil]
    by_cases hb : [x, y, z].all (inB 1 1000000000) = true
    · rw [hb]
      simp only [List.all_cons, List.all_nil, Bool.and_true, Bool.and_eq_true, inB_iff] at hb
      obtain ⟨hx, hy, hz⟩ := hb
      rw [Int.tmod_eq_emod_of_nonneg (show 0 ≤ x by omega), Int.tmod_eq_emod_of_nonneg (show 0 ≤ y by omega)]
      by_cases hx2 : x % 2 = 1
      · by_cases hy2 : y % 2 = 0
        · obtain ⟨a, rfl⟩ : ∃ a : Nat, x = a := ⟨x.toNat, by omega⟩
          obtain ⟨b, rfl⟩ : ∃ b : Nat, y = b := ⟨y.toNat, by omega⟩
          have hg := divisor_ev b a (by omega) (by omega)
          have A := mulb (show (0 : Int) ≤ a by omega) hx.2 (show (0 : Int) ≤ a by omega) hx.2
          have B := mulb (show (0 : Int) ≤ b by omega) hy.2 (show (0 : Int) ≤ b by omega) hy.2
          have C := mulb (show (0 : Int) ≤ z by omega) hz.2 (show (0 : Int) ≤ z by omega) hz.2
          by_cases hd : Nat.gcd a b = 1
          · refine ⟨((a : Int) * a + (b : Int) * b == z * z), ?_, ?_⟩
            · simp only [hx2, hy2]
              refine Ev.bind hg ?_
              rw [hd, wrap_id (x := (a : Int) * a) (by omega) (by omega), wrap_id (x := (b : Int) * b) (by omega) (by omega), wrap_id (x := z * z) (by omega) (by omega), wrap_id (x := (a : Int) * a + (b : Int) * b) (by omega) (by omega)]
              exact Ev.now _
            · rw [beq_iff_eq]
              exact ⟨fun h => ⟨⟨hx, hy, hz⟩, hx2, hy2, by simpa using hd, h⟩, fun h => h.2.2.2.2⟩
          · refine ⟨false, ?_, ⟨fun h => absurd h (by decide), fun h => absurd (by simpa using h.2.2.2.1) hd⟩⟩
            simp only [hx2, hy2]
            refine Ev.bind hg ?_
            simp only [if_neg (show ¬ (((Nat.gcd a b : Nat) : Int) = 1) by omega)]
            exact Ev.now _
        · refine ⟨false, ?_, ⟨fun h => absurd h (by decide), fun h => absurd h.2.2.1 hy2⟩⟩
          simp only [hx2, if_neg hy2]
          exact Ev.now _
      · refine ⟨false, ?_, ⟨fun h => absurd h (by decide), fun h => absurd h.2.1 hx2⟩⟩
        simp only [if_neg hx2]
        exact Ev.now _
    · refine ⟨false, ?_, ⟨fun h => absurd h (by decide), fun h => absurd ?_ hb⟩⟩
      · simp only [Bool.eq_false_iff.2 hb]
        exact Ev.now _
      · simp only [List.all_cons, List.all_nil, Bool.and_true, Bool.and_eq_true, inB_iff]
        exact h.1
  · refine ⟨false, ?_, ⟨fun h => absurd h (by decide), fun h => absurd (right_len h) hl⟩⟩
    unfold impl_IsRight.f
    simp only [if_neg (show ¬ ((l.length : Int) = 3) by omega)]
    exact Ev.now _

theorem l1Same_l (l m : List Int) (hlm : l.length = m.length) (hl : (l.length : Int) ≤ 9223372036854775806) (d : Nat) : ∀ (i k : Nat), i + d = l.length → d < k → spec_l1Same.l0 k l m (l.length : Int) (i : Int) = some (decide (l.drop i = m.drop i)) := by
  induction d with
  | zero =>
    intro i k hi' hk
    obtain ⟨k, rfl⟩ : ∃ m, k = m + 1 := ⟨k - 1, by omega⟩
    simp only [spec_l1Same.l0]
    rw [if_neg (by omega), List.drop_of_length_le (by omega), List.drop_of_length_le (by omega)]
    rfl
  | succ d ih =>
    intro i k hi' hk
    obtain ⟨k, rfl⟩ : ∃ m, k = m + 1 := ⟨k - 1, by omega⟩
    have hil : i < l.length := by omega
    have him : i < m.length := by omega
    simp only [spec_l1Same.l0]
    rw [if_pos (by omega), if_pos (by omega), if_pos (by omega), if_pos (by omega)]
    simp only [rd_at hil, rd_at him]
    rw [wrap_in (by omega) (by omega), List.drop_eq_getElem_cons hil, List.drop_eq_getElem_cons him]
    by_cases e : l[i] = m[i]
    · rw [if_pos e]
      have := ih (i + 1) k (by omega) (by omega)
      rw [show ((i : Int) + 1) = ((i + 1 : Nat) : Int) by omega, this]
      exact congrArg some (decide_eq_decide.2 (by rw [List.cons.injEq]; exact ⟨fun h => ⟨e, h⟩, fun h => h.2⟩))
    · rw [if_neg e, decide_eq_false (fun h => e (List.cons.inj h).1)]
theorem l1Same_ev (l m : List Int) (hl : (l.length : Int) ≤ 9223372036854775806) : Ev (fun k => spec_l1Same.f k l m) (decide (l = m)) := by
  by_cases h : l.length = m.length
  · refine Ev.from l.length (fun k hk => ?_)
    have := l1Same_l l m h hl l.length 0 k (by omega) hk
    unfold spec_l1Same.f
    rw [if_pos (by omega)]
    simpa using this
  · rw [decide_eq_false (fun e => h (by rw [e]))]
    unfold spec_l1Same.f
    simp only [if_neg (show ¬ ((l.length : Int) = (m.length : Int)) by omega)]
    exact Ev.now _
theorem riBack_ev {x y z : Int} (hx : 1 ≤ x ∧ x ≤ 1000000000) (hz : 1 ≤ z ∧ z ≤ 1000000000) (h : x < z) : ∃ r s, IsRoot ((z + x) / 2) r ∧ IsRoot ((z - x) / 2) s ∧ Ev (fun k => spec_riBack.f k [x, y, z]) (r, s) := by
  obtain ⟨r, hr, er⟩ := foRoot_ev (x := (z + x) / 2) (by omega) (by omega)
  obtain ⟨s, hs, es⟩ := foRoot_ev (x := (z - x) / 2) (by omega) (by omega)
  refine ⟨r, s, hr, hs, ?_⟩
  unfold spec_riBack.f
  simp only [rd0, rd2, List.length_cons, List.length_nil]
  rw [wrap_id (x := z + x) (by omega) (by omega), wrap_id (x := z - x) (by omega) (by omega), Int.tdiv_eq_ediv_of_nonneg (show 0 ≤ z + x by omega), Int.tdiv_eq_ediv_of_nonneg (show 0 ≤ z - x by omega), wrap_id (x := (z + x) / 2) (by omega) (by omega), wrap_id (x := (z - x) / 2) (by omega) (by omega)]
  refine Ev.bind er ?_
  refine Ev.bind es ?_
  exact Ev.now _
theorem pairOf_ev {x y z : Int} (hx : 1 ≤ x ∧ x ≤ 1000000000) (hz : 1 ≤ z ∧ z ≤ 1000000000) (h : x < z) : ∃ r s, IsRoot ((z + x) / 2) r ∧ IsRoot ((z - x) / 2) s ∧ Ev (fun k => impl_pairOf.f k [x, y, z]) (r, s) := by
  obtain ⟨r, hr, er⟩ := root_ev (x := (z + x) / 2) (by omega) (by omega)
  obtain ⟨s, hs, es⟩ := root_ev (x := (z - x) / 2) (by omega) (by omega)
  refine ⟨r, s, hr, hs, ?_⟩
  unfold impl_pairOf.f
  simp only [rd0, rd2, List.length_cons, List.length_nil]
  rw [wrap_id (x := z + x) (by omega) (by omega), wrap_id (x := z - x) (by omega) (by omega), Int.tdiv_eq_ediv_of_nonneg (show 0 ≤ z + x by omega), Int.tdiv_eq_ediv_of_nonneg (show 0 ≤ z - x by omega), wrap_id (x := (z + x) / 2) (by omega) (by omega), wrap_id (x := (z - x) / 2) (by omega) (by omega)]
  refine Ev.bind er ?_
  refine Ev.bind es ?_
  exact Ev.now _
theorem root_small {x r : Int} (h : IsRoot x r) (hx : x ≤ 1000000000) : 0 ≤ r ∧ r ≤ 31622 := by
  obtain ⟨h0, h1, _⟩ := h
  refine ⟨h0, ?_⟩
  rcases Int.lt_or_le 31622 r with g | g
  · have := Int.mul_le_mul (show (31623 : Int) ≤ r by omega) (show (31623 : Int) ≤ r by omega) (by omega) h0
    omega
  · exact g
/-- The reference's test. -/
theorem spec_right (l : List Int) (hl : (l.length : Int) ≤ 9223372036854775806) : ∃ t, Ev (fun k => spec_riGood.f k l) t ∧ (t = true ↔ RightL l) := by
  have j0 : ∀ x, Ev (fun k => spec_riGood.j0 k x true) false := fun x => Ev.from 0 (fun k hk => by
    obtain ⟨k, rfl⟩ : ∃ m, k = m + 1 := ⟨k - 1, by omega⟩
    simp [spec_riGood.j0])
  by_cases h3 : l.length = 3
  · obtain ⟨x, y, z, rfl⟩ := three h3
    have ha := l1All_ev 1 1000000000 [x, y, z] hl
    by_cases hb : [x, y, z].all (inB 1 1000000000) = true
    · rw [hb] at ha
      simp only [List.all_cons, List.all_nil, Bool.and_true, Bool.and_eq_true, inB_iff] at hb
      obtain ⟨hx, hy, hz⟩ := hb
      by_cases hzx : z ≤ x
      · refine ⟨false, ?_, ⟨fun h => absurd h (by decide), ?_⟩⟩
        · unfold spec_riGood.f
          simp only [rd0, rd2, List.length_cons, List.length_nil]
          refine Ev.bind ha ?_
          simp only [if_true, decide_eq_true hzx]
          exact j0 _
        · rintro ⟨m, n, h, e⟩
          have := (tri_bounds h).2
          simp only [tri, List.cons.injEq, and_true] at e
          omega
      · obtain ⟨r, s, hr, hs, hrs⟩ := riBack_ev (y := y) hx hz (by omega)
        have hr' := root_small hr (by omega)
        have hs' := root_small hs (by omega)
        obtain ⟨t, ht, hti⟩ := riPair_ev r s (by omega) (by omega)
        have key : ∀ u, Ev (fun k => if t = true then ((spec_riOf.f r s).bind fun t126 => ((spec_l1Same.f k t126 [x, y, z]).bind fun t129 => (some t129))) else (some false)) u → Ev (fun k => spec_riGood.f k [x, y, z]) u := by
          intro u hu
          unfold spec_riGood.f
          simp only [rd0, rd2, List.length_cons, List.length_nil]
          refine Ev.bind ha ?_
          simp only [if_true, decide_eq_false hzx]
          obtain ⟨K, hK⟩ := Ev.bind (f := fun k bt => ((spec_riPair.f k bt.1 bt.2).bind fun t125 => (if t125 = true then ((spec_riOf.f bt.1 bt.2).bind fun t126 => ((spec_l1Same.f k t126 [x, y, z]).bind fun t129 => (some t129))) else (some false)))) hrs (Ev.bind (f := fun k t => (if t = true then ((spec_riOf.f r s).bind fun t126 => ((spec_l1Same.f k t126 [x, y, z]).bind fun t129 => (some t129))) else (some false))) ht hu)
          refine Ev.from (K + 1) (fun k hk => ?_)
          obtain ⟨k, rfl⟩ : ∃ m, k = m + 1 := ⟨k - 1, by omega⟩
          have := hK k (by omega)
          simpa [spec_riGood.j0] using this
        by_cases htt : t = true
        · obtain ⟨m, n, rfl, rfl, hp⟩ := hti.1 htt
          refine ⟨decide (tri m n = [x, y, z]), key _ ?_, ?_⟩
          · simp only [htt, if_true]
            have := hp.le
            rw [riOf_nat m n (by omega) (by omega)]
            simp only [Option.bind_some]
            exact Ev.bind (l1Same_ev (tri m n) [x, y, z] (by simp [tri])) (Ev.now _)
          · rw [decide_eq_true_iff]
            constructor
            · exact fun e => ⟨m, n, hp, e.symm⟩
            · rintro ⟨m', n', hp', e⟩
              have e' := e
              simp only [tri, List.cons.injEq, and_true] at e
              obtain ⟨ex, ey, ez⟩ := e
              have e1 : (m : Int) = m' := hr.uniq (by
                rw [show (z + x) / 2 = (m' : Int) * m' by omega]
                exact isRoot_sq (by omega))
              have e2 : (n : Int) = n' := hs.uniq (by
                rw [show (z - x) / 2 = (n' : Int) * n' by omega]
                exact isRoot_sq (by omega))
              rw [show m = m' by omega, show n = n' by omega, e']
        · refine ⟨false, key _ ?_, ⟨fun h => absurd h (by decide), ?_⟩⟩
          · simp only [if_neg htt]
            exact Ev.now _
          · rintro ⟨m', n', hp', e⟩
            simp only [tri, List.cons.injEq, and_true] at e
            obtain ⟨ex, ey, ez⟩ := e
            have e1 : r = m' := hr.uniq (by
              rw [show (z + x) / 2 = (m' : Int) * m' by omega]
              exact isRoot_sq (by omega))
            have e2 : s = n' := hs.uniq (by
              rw [show (z - x) / 2 = (n' : Int) * n' by omega]
              exact isRoot_sq (by omega))
            exact absurd (hti.2 ⟨m', n', e1, e2, hp'⟩) htt
    · refine ⟨false, ?_, ⟨fun h => absurd h (by decide), ?_⟩⟩
      · rw [Bool.eq_false_iff.2 hb] at ha
        unfold spec_riGood.f
        simp only [rd0, rd2, List.length_cons, List.length_nil]
        refine Ev.bind ha ?_
        simp only [Bool.false_eq_true, if_false]
        exact j0 _
      · rintro ⟨m, n, h, e⟩
        exact absurd (by rw [e]; exact (tri_bounds h).1) hb
  · refine ⟨false, ?_, ⟨fun h => absurd h (by decide), fun h => absurd (right_len h) h3⟩⟩
    unfold spec_riGood.f
    simp only [if_neg (show ¬ ((l.length : Int) = 3) by omega)]
    exact j0 _

end Go.Proofs.Ytmjgklpccdigfaa.P
