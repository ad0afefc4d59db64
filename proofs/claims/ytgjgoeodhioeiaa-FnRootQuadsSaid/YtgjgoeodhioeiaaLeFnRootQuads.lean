import Derived.Test.YtgjgoeodhioeiaaP0
import Derived.Test.YtgjgoeodhioeiaaP1
import Derived.Test.YtgjgoeodhioeiaaP2
import Derived.Test.YtgjgoeodhioeiaaP3
import Derived.Test.YtgjgoeodhioeiaaP4
import Derived.Test.YtgjgoeodhioeiaaP5
import Derived.Test.YtgjgoeodhioeiaaP8
import Derived.Test.YtgjgoeodhioeiaaP9
import Derived.Test.YtgjgoeodhioeiaaP10
import Derived.Test.YtgjgoeodhioeiaaP11
import Derived.Test.YtgjgoeodhioeiaaP12
import Derived.Test.YtgjgoeodhioeiaaP13
import Derived.Laws.BitsAllLaws
namespace Go.Proofs.Ytgjgoeodhioeiaa.P
open Go.RowKit Go.Proofs.YtgjgoeodhioeiaaW.PrintWords Go.Proofs.YtgjgoeodhioeiaaW.PrintLast Go.Proofs.YtgjgoeodhioeiaaW.PrintMore
theorem wrap_id {x : Int} (h0 : -9223372036854775808 ≤ x) (h1 : x ≤ 9223372036854775807) : wrap64 x = x := by unfold wrap64; omega
theorem rdi_at {l : List Int} {i : Nat} (h : i < l.length) : rd l (i : Int) = l[i] := by simp [rd, List.getD_eq_getElem?_getD, List.getElem?_eq_getElem h]
theorem l1In_f (x lo hi : Int) : spec_l1In.f x lo hi = some (inB lo hi x) := by
  unfold spec_l1In.f inB
  by_cases h : x ≥ lo
  · rw [if_pos h]; simp [show lo ≤ x from h]
  · rw [if_neg h]; simp [show ¬ lo ≤ x from h]
theorem inB_iff {lo hi x : Int} : inB lo hi x = true ↔ lo ≤ x ∧ x ≤ hi := by simp [inB]
theorem inB_of {lo hi x : Int} (h : lo ≤ x ∧ x ≤ hi) : inB lo hi x = true := inB_iff.2 h
theorem inB_not {lo hi x : Int} (h : ¬ (lo ≤ x ∧ x ≤ hi)) : inB lo hi x = false := by
  cases e : inB lo hi x with
  | false => rfl
  | true => exact absurd (inB_iff.1 e) h
theorem Ev.all {α : Type} {f : Option α} {r : α} (h : f = some r) : Ev (fun _ => f) r := ⟨0, fun _ _ => h⟩
theorem Ev.from {α : Type} {g : Nat → Option α} {r : α} (K : Nat) (h : ∀ k, K < k → g k = some r) : Ev g r := ⟨K + 1, fun k hk => h k (by omega)⟩
theorem natAbs_tmod_ (a b : Int) : (Int.tmod a b).natAbs = a.natAbs % b.natAbs := Int.natAbs_tmod a b
theorem gcd_step (x y : Nat) : Nat.gcd y (x % y) = Nat.gcd x y := by rw [Nat.gcd_comm x y, Nat.gcd_rec y x, Nat.gcd_comm (x % y) y]
theorem divisorZ_ev (n : Nat) : ∀ a b : Int, b.natAbs = n → a.natAbs ≤ 9223372036854775807 → b.natAbs ≤ 9223372036854775807 → Ev (fun k => impl_divisor.f k a b) ((Nat.gcd a.natAbs b.natAbs : Nat) : Int) := by
  unfold impl_divisor.f
  induction n using Nat.strongRecOn with
  | _ n ih =>
    intro a b hn ha hb
    by_cases h0 : b = 0
    · subst h0
      refine Ev.step (f := fun _ => some ((a.natAbs : Nat) : Int)) (fun k => ?_) (by rw [Int.natAbs_zero, Nat.gcd_zero_right]; exact Ev.now _)
      simp only [impl_divisor.l0]
      rw [if_pos trivial, wrap_id (by omega) (by omega)]
      unfold mx
      by_cases h : a < -a
      · rw [if_pos h]; exact congrArg some (by omega)
      · rw [if_neg h]; exact congrArg some (by omega)
    · have hm := natAbs_tmod_ a b
      have hlt : a.natAbs % b.natAbs < b.natAbs := Nat.mod_lt _ (by omega)
      have := ih (Int.tmod a b).natAbs (by omega) b (Int.tmod a b) rfl hb (by omega)
      refine Ev.step (f := fun k => impl_divisor.l0 k b (Int.tmod a b)) (fun k => ?_) ?_
      · simp only [impl_divisor.l0]
        rw [if_neg h0]
      · rw [← gcd_step a.natAbs b.natAbs, ← hm]
        exact this

def bq (x : Int) : Prop := -100000 ≤ x ∧ x ≤ 100000
theorem sqb {a b A B : Int} (h0 : -A ≤ a) (h1 : a ≤ A) (h2 : -B ≤ b) (h3 : b ≤ B) : -(A * B) ≤ a * b ∧ a * b ≤ A * B := by
  have p1 := Int.mul_nonneg (show 0 ≤ A - a by omega) (show 0 ≤ B + b by omega)
  have p2 := Int.mul_nonneg (show 0 ≤ A + a by omega) (show 0 ≤ B - b by omega)
  have p3 := Int.mul_nonneg (show 0 ≤ A - a by omega) (show 0 ≤ B - b by omega)
  have p4 := Int.mul_nonneg (show 0 ≤ A + a by omega) (show 0 ≤ B + b by omega)
  constructor <;> grind
def form4 (a b c d : Int) : Bool := decide (a + b + c + d > 0) && (2 * (a * a + b * b + c * c + d * d) == (a + b + c + d) * (a + b + c + d))
def quadB (l : List Int) : Bool := (decide (l.length = 4) && l.all (inB (-100000) 100000)) && match l with
  | [a, b, c, d] => form4 a b c d
  | _ => false
theorem four {l : List Int} (h : l.length = 4) : ∃ a b c d, l = [a, b, c, d] := by
  match l, h with
  | [a, b, c, d], _ => exact ⟨a, b, c, d, rfl⟩
theorem quadB_iff {l : List Int} : quadB l = true ↔ ∃ a b c d, l = [a, b, c, d] ∧ bq a ∧ bq b ∧ bq c ∧ bq d ∧ a + b + c + d > 0 ∧ 2 * (a * a + b * b + c * c + d * d) = (a + b + c + d) * (a + b + c + d) := by
  constructor
  · intro h
    simp only [quadB, Bool.and_eq_true, decide_eq_true_eq] at h
    obtain ⟨a, b, c, d, rfl⟩ := four h.1.1
    simp only [List.all_cons, List.all_nil, Bool.and_true, Bool.and_eq_true, inB_iff, form4, decide_eq_true_eq, beq_iff_eq] at h
    exact ⟨a, b, c, d, rfl, h.1.2.1, h.1.2.2.1, h.1.2.2.2.1, h.1.2.2.2.2, h.2.1, h.2.2⟩
  · rintro ⟨a, b, c, d, rfl, h0, h1, h2, h3, h4, h5⟩
    simp only [quadB, Bool.and_eq_true, decide_eq_true_eq, List.all_cons, List.all_nil, Bool.and_true, inB_iff, form4, beq_iff_eq, List.length_cons, List.length_nil]
    exact ⟨⟨trivial, h0, h1, h2, h3⟩, h4, h5⟩
theorem r40 (a b c d : Int) : rd [a, b, c, d] 0 = a := Eq.trans rfl rfl
theorem r41 (a b c d : Int) : rd [a, b, c, d] 1 = b := Eq.trans rfl rfl
theorem r42 (a b c d : Int) : rd [a, b, c, d] 2 = c := Eq.trans rfl rfl
theorem r43 (a b c d : Int) : rd [a, b, c, d] 3 = d := Eq.trans rfl rfl
theorem w01 : wrap64 (0 + 1) = 1 := wrap_id (x := 0 + 1) (by decide) (by decide)
theorem w12 : wrap64 (1 + 1) = 2 := wrap_id (x := 1 + 1) (by decide) (by decide)
theorem w23 : wrap64 (2 + 1) = 3 := wrap_id (x := 2 + 1) (by decide) (by decide)
theorem w34 : wrap64 (3 + 1) = 4 := wrap_id (x := 3 + 1) (by decide) (by decide)
theorem i04 : (0 : Int) < 4 := by decide
theorem i14 : (1 : Int) < 4 := by decide
theorem i24 : (2 : Int) < 4 := by decide
theorem i34 : (3 : Int) < 4 := by decide
theorem i44 : ¬ (4 : Int) < 4 := by decide
theorem i00 : (0 : Int) ≤ 0 := by decide
theorem i01 : (0 : Int) ≤ 1 := by decide
theorem i02 : (0 : Int) ≤ 2 := by decide
theorem i03 : (0 : Int) ≤ 3 := by decide
theorem len4 (a b c d : Int) : (([a, b, c, d] : List Int).length : Int) = 4 := rfl
theorem sums {a b c d : Int} (h0 : bq a) (h1 : bq b) (h2 : bq c) (h3 : bq d) :
    (0 ≤ a * a ∧ a * a ≤ 10000000000) ∧ (0 ≤ b * b ∧ b * b ≤ 10000000000) ∧ (0 ≤ c * c ∧ c * c ≤ 10000000000) ∧ (0 ≤ d * d ∧ d * d ≤ 10000000000) ∧ -160000000000 ≤ (a + b + c + d) * (a + b + c + d) ∧ (a + b + c + d) * (a + b + c + d) ≤ 160000000000 := by
  unfold bq at *
  have nn : ∀ x : Int, 0 ≤ x * x := fun x => by
    rcases Int.le_total 0 x with h | h
    · exact Int.mul_nonneg h h
    · have := Int.mul_nonneg (show 0 ≤ -x by omega) (show 0 ≤ -x by omega); grind
  refine ⟨⟨nn a, (sqb (A := 100000) (B := 100000) (by omega) h0.2 (by omega) h0.2).2⟩, ⟨nn b, (sqb (A := 100000) (B := 100000) (by omega) h1.2 (by omega) h1.2).2⟩, ⟨nn c, (sqb (A := 100000) (B := 100000) (by omega) h2.2 (by omega) h2.2).2⟩, ⟨nn d, (sqb (A := 100000) (B := 100000) (by omega) h3.2 (by omega) h3.2).2⟩, ?_⟩
  exact sqb (A := 400000) (B := 400000) (by omega) (by omega) (by omega) (by omega)
theorem sumOf_l {a b c d : Int} (h0 : bq a) (h1 : bq b) (h2 : bq c) (h3 : bq d) (k : Nat) : impl_sumOf.f (k + 5) [a, b, c, d] = some (a + b + c + d) := by
  unfold bq at h0 h1 h2 h3
  unfold impl_sumOf.f
  simp only [impl_sumOf.l0, len4, r40, r41, r42, r43, w01, w12, w23, w34, if_pos i04, if_pos i14, if_pos i24, if_pos i34, if_neg i44, if_pos i00, if_pos i01, if_pos i02, if_pos i03]
  rw [Int.zero_add, wrap_id (x := a) (by omega) (by omega), wrap_id (x := a + b) (by omega) (by omega), wrap_id (x := a + b + c) (by omega) (by omega), wrap_id (x := a + b + c + d) (by omega) (by omega)]
theorem dot_l {a b c d : Int} (h0 : bq a) (h1 : bq b) (h2 : bq c) (h3 : bq d) (k : Nat) : impl_dot.f (k + 5) [a, b, c, d] [a, b, c, d] = some (a * a + b * b + c * c + d * d) := by
  obtain ⟨s0, s1, s2, s3, s4⟩ := sums h0 h1 h2 h3
  unfold impl_dot.f
  simp only [impl_dot.l0, len4, r40, r41, r42, r43, w01, w12, w23, w34, if_pos i04, if_pos i14, if_pos i24, if_pos i34, if_neg i44, if_pos i00, if_pos i01, if_pos i02, if_pos i03]
  rw [Int.zero_add, wrap_id (x := a * a) (by omega) (by omega), wrap_id (x := a * a) (by omega) (by omega), wrap_id (x := b * b) (by omega) (by omega), wrap_id (x := c * c) (by omega) (by omega), wrap_id (x := d * d) (by omega) (by omega), wrap_id (x := a * a + b * b) (by omega) (by omega), wrap_id (x := a * a + b * b + c * c) (by omega) (by omega), wrap_id (x := a * a + b * b + c * c + d * d) (by omega) (by omega)]
theorem isQuad_ev (l : List Int) : Ev (fun k => impl_IsQuad.f k l) (quadB l) := by
  have j0 : ∀ x, Ev (fun k => impl_IsQuad.j0 k x true) false := fun x => Ev.from 0 (fun k hk => by
    obtain ⟨k, rfl⟩ : ∃ m, k = m + 1 := ⟨k - 1, by omega⟩
    simp [impl_IsQuad.j0])
  unfold impl_IsQuad.f impl_allWithin.f quadB
  by_cases h : l.length = 4
  · simp only [if_pos (show (l.length : Int) = 4 by omega), decide_eq_true h, Bool.true_and, Option.bind_some]
    cases hb : l.all (inB (-100000) 100000) with
    | false => simp only [Bool.not_false, Bool.false_and]; exact j0 l
    | true =>
      obtain ⟨a, b, c, d, rfl⟩ := four h
      simp only [List.all_cons, List.all_nil, Bool.and_true, Bool.and_eq_true, inB_iff] at hb
      simp only [Bool.not_true, Bool.true_and]
      refine Ev.from 10 (fun k hk => ?_)
      obtain ⟨k, rfl⟩ : ∃ m, k = m + 6 := ⟨k - 6, by omega⟩
      simp only [impl_IsQuad.j0, Bool.false_eq_true, if_false]
      rw [sumOf_l hb.1 hb.2.1 hb.2.2.1 hb.2.2.2 k, dot_l hb.1 hb.2.1 hb.2.2.1 hb.2.2.2 k]
      obtain ⟨s0, s1, s2, s3, s4⟩ := sums hb.1 hb.2.1 hb.2.2.1 hb.2.2.2
      simp only [Option.bind_some]
      rw [wrap_id (x := 2 * (a * a + b * b + c * c + d * d)) (by omega) (by omega), wrap_id (x := (a + b + c + d) * (a + b + c + d)) (by omega) (by omega)]
      unfold form4
      by_cases h : a + b + c + d > 0
      · rw [if_pos h, decide_eq_true h, Bool.true_and]
      · rw [if_neg h, decide_eq_false h, Bool.false_and]
  · simp only [if_neg (show ¬ (l.length : Int) = 4 by omega), decide_eq_false h, Bool.false_and]
    exact j0 l

theorem sq_nn (x : Int) : 0 ≤ x * x := by
  rcases Int.le_total 0 x with h | h
  · exact Int.mul_nonneg h h
  · have := Int.mul_nonneg (show 0 ≤ -x by omega) (show 0 ≤ -x by omega); grind
theorem swap_pos {x y z : Int} (h1 : x + y > 0) (h2 : 2 * (x * x + z) = (x + y) * (x + y)) (h3 : y * y ≤ 3 * z) : 3 * y - x > 0 := by
  rcases Int.lt_or_le 0 (3 * y - x) with h | h
  · exact h
  · obtain ⟨t, ht⟩ : ∃ t, t = x - 3 * y := ⟨_, rfl⟩
    have hx : x = 3 * y + t := by omega
    have ht0 : 0 ≤ t := by omega
    subst hx
    have key : 8 * (y * y) + 12 * (y * t) + 3 * (t * t) ≤ 0 := by grind
    have n1 := sq_nn y
    have n2 := sq_nn t
    rcases Int.lt_or_le y 0 with hy | hy
    · have n3 := Int.mul_nonneg ht0 (show 0 ≤ 4 * y + t by omega)
      have n4 : 0 < y * y := by
        have := Int.mul_pos (show 0 < -y by omega) (show 0 < -y by omega); grind
      grind
    · have n3 := Int.mul_nonneg hy ht0
      have n5 : y * y = 0 := by omega
      have n6 : t * t = 0 := by omega
      have n7 : y = 0 := by
        rcases Int.mul_eq_zero.1 n5 with h | h <;> exact h
      have n8 : t = 0 := by
        rcases Int.mul_eq_zero.1 n6 with h | h <;> exact h
      omega
theorem three_sq (b c d : Int) : (b + c + d) * (b + c + d) ≤ 3 * (b * b + c * c + d * d) := by
  have h1 := sq_nn (b - c)
  have h2 := sq_nn (b - d)
  have h3 := sq_nn (c - d)
  grind
theorem swap_form {x b c d : Int} (h1 : x + b + c + d > 0) (h2 : 2 * (x * x + b * b + c * c + d * d) = (x + b + c + d) * (x + b + c + d)) :
    (2 * (b + c + d) - x) + b + c + d > 0 ∧ 2 * ((2 * (b + c + d) - x) * (2 * (b + c + d) - x) + b * b + c * c + d * d) = ((2 * (b + c + d) - x) + b + c + d) * ((2 * (b + c + d) - x) + b + c + d) := by
  constructor
  · have := swap_pos (x := x) (y := b + c + d) (z := b * b + c * c + d * d) (by omega) (by grind) (three_sq b c d)
    omega
  · grind
/-- the quad behind a swap -/
def swl (l : List Int) (i : Nat) : List Int := l.set i (2 * (l.sum - l.getD i 0) - l.getD i 0)
theorem swl0 (a b c d : Int) : swl [a, b, c, d] 0 = [2 * (b + c + d) - a, b, c, d] := by
  simp [swl]; omega
theorem swl1 (a b c d : Int) : swl [a, b, c, d] 1 = [a, 2 * (a + c + d) - b, c, d] := by
  simp [swl]; omega
theorem swl2 (a b c d : Int) : swl [a, b, c, d] 2 = [a, b, 2 * (a + b + d) - c, d] := by
  simp [swl]; omega
theorem swl3 (a b c d : Int) : swl [a, b, c, d] 3 = [a, b, c, 2 * (a + b + c) - d] := by
  simp [swl]; omega
theorem quad_swl {l : List Int} (hq : quadB l = true) {i : Nat} (hi : i < 4) : quadB (swl l i) = inB (-100000) 100000 ((swl l i).getD i 0) := by
  obtain ⟨a, b, c, d, rfl, h0, h1, h2, h3, h4, h5⟩ := quadB_iff.1 hq
  rw [Bool.eq_iff_iff, quadB_iff, inB_iff]
  match i, hi with
  | 0, _ =>
    rw [swl0]
    constructor
    · rintro ⟨a', b', c', d', e, q, _⟩
      simp only [List.cons.injEq] at e
      obtain ⟨rfl, _⟩ := e
      exact q
    · intro q
      have := swap_form (x := a) (b := b) (c := c) (d := d) (by omega) (by grind)
      exact ⟨_, _, _, _, rfl, q, h1, h2, h3, by omega, by grind⟩
  | 1, _ =>
    rw [swl1]
    constructor
    · rintro ⟨a', b', c', d', e, _, q, _⟩
      simp only [List.cons.injEq] at e
      obtain ⟨_, rfl, _⟩ := e
      exact q
    · intro q
      have := swap_form (x := b) (b := a) (c := c) (d := d) (by omega) (by grind)
      exact ⟨_, _, _, _, rfl, h0, q, h2, h3, by omega, by grind⟩
  | 2, _ =>
    rw [swl2]
    constructor
    · rintro ⟨a', b', c', d', e, _, _, q, _⟩
      simp only [List.cons.injEq] at e
      obtain ⟨_, _, rfl, _⟩ := e
      exact q
    · intro q
      have := swap_form (x := c) (b := a) (c := b) (d := d) (by omega) (by grind)
      exact ⟨_, _, _, _, rfl, h0, h1, q, h3, by omega, by grind⟩
  | 3, _ =>
    rw [swl3]
    constructor
    · rintro ⟨a', b', c', d', e, _, _, _, q, _⟩
      simp only [List.cons.injEq] at e
      obtain ⟨_, _, _, rfl, _⟩ := e
      exact q
    · intro q
      have := swap_form (x := d) (b := a) (c := b) (d := c) (by omega) (by grind)
      exact ⟨_, _, _, _, rfl, h0, h1, h2, q, by omega, by grind⟩
  | (i + 4), h => omega
theorem swl_length (l : List Int) (i : Nat) : (swl l i).length = l.length := by simp [swl]
theorem rd_nat (l : List Int) (i : Nat) : rd l (i : Int) = l.getD i 0 := by simp [rd]
theorem bq_get {a b c d : Int} (h0 : bq a) (h1 : bq b) (h2 : bq c) (h3 : bq d) {i : Nat} (hi : i < 4) : bq (([a, b, c, d] : List Int).getD i 0) := by
  match i, hi with
  | 0, _ => exact h0
  | 1, _ => exact h1
  | 2, _ => exact h2
  | 3, _ => exact h3
theorem swapped_ev {l : List Int} (hq : quadB l = true) {i : Nat} (hi : i < 4) : Ev (fun k => impl_swapped.f k l (i : Int)) (swl l i) := by
  obtain ⟨a, b, c, d, rfl, h0, h1, h2, h3, h4, h5⟩ := quadB_iff.1 hq
  have hg := bq_get h0 h1 h2 h3 hi
  have hsum : Ev (fun k => impl_sumOf.f k [a, b, c, d]) (a + b + c + d) := Ev.from 5 (fun k hk => by
    obtain ⟨k, rfl⟩ : ∃ m, k = m + 5 := ⟨k - 5, by omega⟩
    exact sumOf_l h0 h1 h2 h3 k)
  unfold bq at h0 h1 h2 h3 hg
  unfold impl_swapped.f slices_Clone_int_int_55.f
  simp only [if_pos (show ([a, b, c, d] : List Int).length < 17592186044416 by simp), Option.bind_some, len4]
  refine Ev.bind hsum ?_
  rw [if_pos (by omega), if_pos (by omega), rd_nat]
  have hs : ([a, b, c, d] : List Int).sum = a + b + c + d := by simp; omega
  unfold swl
  rw [hs]
  generalize ([a, b, c, d] : List Int).getD i 0 = x at *
  rw [wrap_id (x := a + b + c + d - x) (by omega) (by omega), wrap_id (x := 2 * (a + b + c + d - x)) (by omega) (by omega), wrap_id (x := 2 * (a + b + c + d - x) - x) (by omega) (by omega)]
  simp only [if_pos (show (i : Int) < 4 by omega), Int.toNat_natCast]
  exact Ev.now _
def argm (l : List Int) : Nat → Nat → Nat → Nat
  | b, _, 0 => b
  | b, i, d + 1 => if l.getD i 0 > l.getD b 0 then argm l i (i + 1) d else argm l b (i + 1) d
theorem argm_spec (l : List Int) (d : Nat) : ∀ b i, (b < i ∨ b = 0 ∧ i = 0) → (∀ j, j < i → l.getD j 0 ≤ l.getD b 0) → (∀ j, j < b → l.getD j 0 < l.getD b 0) →
    (∀ j, j < i + d → l.getD j 0 ≤ l.getD (argm l b i d) 0) ∧ (∀ j, j < argm l b i d → l.getD j 0 < l.getD (argm l b i d) 0) ∧ (argm l b i d < i + d ∨ argm l b i d = b) := by
  induction d with
  | zero =>
    intro b i _ h1 h2
    exact ⟨fun j hj => h1 j (by omega), h2, .inr rfl⟩
  | succ d ih =>
    intro b i hbi h1 h2
    simp only [argm]
    split
    · rename_i hg
      have h1' : ∀ j, j < i + 1 → l.getD j 0 ≤ l.getD i 0 := by
        intro j hj
        rcases Nat.lt_or_ge j i with h | h
        · have := h1 j h; omega
        · have : j = i := by omega
          subst this
          exact Int.le_refl _
      have h2' : ∀ j, j < i → l.getD j 0 < l.getD i 0 := fun j hj => by have := h1 j hj; omega
      obtain ⟨r1, r2, r3⟩ := ih i (i + 1) (.inl (by omega)) h1' h2'
      exact ⟨fun j hj => r1 j (by omega), r2, .inl (by omega)⟩
    · rename_i hg
      have h1' : ∀ j, j < i + 1 → l.getD j 0 ≤ l.getD b 0 := by
        intro j hj
        rcases Nat.lt_or_ge j i with h | h
        · exact h1 j h
        · have : j = i := by omega
          subst this
          omega
      obtain ⟨r1, r2, r3⟩ := ih b (i + 1) (.inl (by omega)) h1' h2
      exact ⟨fun j hj => r1 j (by omega), r2, by omega⟩
theorem argm4 (l : List Int) : (∀ j, j < 4 → l.getD j 0 ≤ l.getD (argm l 0 0 4) 0) ∧ (∀ j, j < argm l 0 0 4 → l.getD j 0 < l.getD (argm l 0 0 4) 0) ∧ argm l 0 0 4 < 4 := by
  obtain ⟨h1, h2, h3⟩ := argm_spec l 4 0 0 (.inr ⟨rfl, rfl⟩) (fun j hj => by omega) (fun j hj => by omega)
  exact ⟨fun j hj => h1 j (by omega), h2, by omega⟩
/-- the number behind a swap -/
def sv (l : List Int) (i : Nat) : Int := 2 * (l.sum - l.getD i 0) - l.getD i 0
theorem swl_get {l : List Int} {i : Nat} (h : i < l.length) : (swl l i).getD i 0 = sv l i := by
  unfold swl sv
  simp [List.getD_eq_getElem?_getD, List.getElem?_set_self h]
theorem quad_len {l : List Int} (hq : quadB l = true) : l.length = 4 := by
  obtain ⟨a, b, c, d, rfl, _⟩ := quadB_iff.1 hq
  rfl
def dres (l : List Int) (m : Nat) : Int := if l.getD m 0 ≤ sv l m then -1 else (m : Int)
/-- where a quad leads down -/
def dwn (l : List Int) : Int := dres l (argm l 0 0 4)
def rootB (l : List Int) : Nat → Nat → Bool
  | _, 0 => true
  | i, d + 1 => decide (l.getD i 0 ≤ sv l i) && rootB l (i + 1) d
theorem isRoot_l {l : List Int} (hq : quadB l = true) (d : Nat) : ∀ (i : Nat), i + d = 4 → Ev (fun k => impl_isRoot.l0 k l l 4 (i : Int)) (rootB l i d) := by
  have h4 := quad_len hq
  induction d with
  | zero =>
    intro i hi
    refine Ev.step (f := fun _ => some true) (fun k => ?_) (Ev.now _)
    simp only [impl_isRoot.l0]
    rw [if_neg (by omega)]
  | succ d ih =>
    intro i hi
    have hs := swapped_ev hq (show i < 4 by omega)
    refine Ev.step (f := fun k => (impl_swapped.f k l (i : Int)).bind fun t => (if (i : Int) < (t.length : Int) then (if (rd t (i : Int)) < (rd l (i : Int)) then (some false) else (impl_isRoot.l0 k l l 4 ((i + 1 : Nat) : Int))) else (none))) (fun k => ?_) ?_
    · simp only [impl_isRoot.l0, h4]
      rw [if_pos (by omega), if_pos (by omega), if_pos (by omega), wrap_id (by omega) (by omega), show ((i : Int) + 1) = ((i + 1 : Nat) : Int) by omega]
    · refine Ev.bind hs ?_
      simp only [swl_length, h4, rd_nat, if_pos (show (i : Int) < ((4 : Nat) : Int) by omega)]
      rw [swl_get (by omega)]
      simp only [rootB]
      by_cases h : l.getD i 0 ≤ sv l i
      · simp only [if_neg (show ¬ (sv l i < l.getD i 0) by omega), decide_eq_true h, Bool.true_and]
        exact ih (i + 1) (by omega)
      · simp only [if_pos (show sv l i < l.getD i 0 by omega), decide_eq_false h, Bool.false_and]
        exact Ev.now _
theorem isRoot_ev {l : List Int} (hq : quadB l = true) : Ev (fun k => impl_isRoot.f k l) (rootB l 0 4) := by
  unfold impl_isRoot.f
  rw [show (l.length : Int) = 4 by have := quad_len hq; omega]
  exact isRoot_l hq 4 0 (by omega)
theorem root_iff (l : List Int) : rootB l 0 4 = decide (dwn l < 0) := by
  obtain ⟨h1, h2, h3⟩ := argm4 l
  rw [Bool.eq_iff_iff, decide_eq_true_iff]
  simp only [rootB, Nat.zero_add, Nat.reduceAdd, Bool.and_true, Bool.and_eq_true, decide_eq_true_iff, dwn, dres]
  have a0 := h1 0 (by omega)
  have a1 := h1 1 (by omega)
  have a2 := h1 2 (by omega)
  have a3 := h1 3 (by omega)
  generalize argm l 0 0 4 = m at *
  unfold sv
  generalize l.sum = S at *
  constructor
  · rintro ⟨q0, q1, q2, q3⟩
    rw [if_pos]
    · decide
    · match m, h3 with
      | 0, _ => exact q0
      | 1, _ => exact q1
      | 2, _ => exact q2
      | 3, _ => exact q3
  · intro h
    by_cases hm : l.getD m 0 ≤ 2 * (S - l.getD m 0) - l.getD m 0
    · exact ⟨by omega, by omega, by omega, by omega⟩
    · rw [if_neg hm] at h
      omega
theorem index_l (l : List Int) (v : Int) (m : Nat) (hm : m < l.length) (hl : (l.length : Int) ≤ 9223372036854775806) (hv : l.getD m 0 = v) (hf : ∀ j, j < m → l.getD j 0 < v) (d : Nat) : ∀ i, i + d = m → Ev (fun k => slices_Index_int_int.l0 k l v (l.length : Int) (i : Int)) (m : Int) := by
  induction d with
  | zero =>
    intro i hi
    obtain rfl : i = m := by omega
    refine Ev.step (f := fun _ => some (i : Int)) (fun k => ?_) (Ev.now _)
    simp only [slices_Index_int_int.l0]
    rw [if_pos (by omega), if_pos (by omega), if_pos (by omega), rd_nat, if_pos hv.symm]
  | succ d ih =>
    intro i hi
    have := hf i (by omega)
    refine Ev.step (f := fun k => slices_Index_int_int.l0 k l v (l.length : Int) ((i + 1 : Nat) : Int)) (fun k => ?_) (ih (i + 1) (by omega))
    simp only [slices_Index_int_int.l0]
    rw [if_pos (by omega), if_pos (by omega), if_pos (by omega), rd_nat, if_neg (by omega), wrap_id (by omega) (by omega), show ((i : Int) + 1) = ((i + 1 : Nat) : Int) by omega]
theorem max4 (a b c d : Int) : ([b, c, d].foldl max a) = [a, b, c, d].getD (argm [a, b, c, d] 0 0 4) 0 := by
  obtain ⟨h1, h2, h3⟩ := argm4 [a, b, c, d]
  have a0 := h1 0 (by omega)
  have a1 := h1 1 (by omega)
  have a2 := h1 2 (by omega)
  have a3 := h1 3 (by omega)
  generalize argm [a, b, c, d] 0 0 4 = m at *
  have e0 : [a, b, c, d].getD 0 0 = a := rfl
  have e1 : [a, b, c, d].getD 1 0 = b := rfl
  have e2 : [a, b, c, d].getD 2 0 = c := rfl
  have e3 : [a, b, c, d].getD 3 0 = d := rfl
  rw [e0] at a0
  rw [e1] at a1
  rw [e2] at a2
  rw [e3] at a3
  have hm : [a, b, c, d].getD m 0 = a ∨ [a, b, c, d].getD m 0 = b ∨ [a, b, c, d].getD m 0 = c ∨ [a, b, c, d].getD m 0 = d := by
    match m, h3 with
    | 0, _ => exact .inl rfl
    | 1, _ => exact .inr (.inl rfl)
    | 2, _ => exact .inr (.inr (.inl rfl))
    | 3, _ => exact .inr (.inr (.inr rfl))
  simp only [List.foldl_cons, List.foldl_nil]
  generalize [a, b, c, d].getD m 0 = v at *
  simp only [Int.max_def]
  repeat' split
  all_goals omega
theorem greatest_ev {l : List Int} (hq : quadB l = true) : Ev (fun k => impl_greatest.f k l) ((argm l 0 0 4 : Nat) : Int) := by
  obtain ⟨h1, h2, h3⟩ := argm4 l
  have h4 := quad_len hq
  obtain ⟨a, b, c, d, rfl, _⟩ := quadB_iff.1 hq
  unfold impl_greatest.f slices_Max_int_int.f
  simp only [Option.bind_some]
  rw [max4]
  refine Ev.bind ?_ (Ev.now _)
  unfold slices_Index_int_int.f
  exact index_l [a, b, c, d] _ _ (by simpa using h3) (by simp) rfl h2 (argm [a, b, c, d] 0 0 4) 0 (by omega)

theorem low_core {a b c d : Int} (ha : bq a) (hb : bq b) (hc : bq c) (hs : a + b + c + d > 0) (hf : 2 * (a * a + b * b + c * c + d * d) = (a + b + c + d) * (a + b + c + d)) : -100000 ≤ d := by
  unfold bq at ha hb hc
  refine Int.not_lt.1 (fun hd => ?_)
  have e : (c - a - b - d) * (c - a - b - d) = 4 * (a * b + a * d + b * d) := by grind
  have e2 : (-d - a) * (-d - b) = a * b + a * d + b * d + d * d := by grind
  have p := sq_nn (c - a - b - d)
  have q : (-d - a) * (-d - b) ≥ d * d := by omega
  have hx : 0 < -d - a := by omega
  have hy : 0 < -d - b := by omega
  have hz : 0 < -d - c := by omega
  have hsum : (-d - a) + (-d - b) < 2 * (-d) := by omega
  have h4 := sq_nn ((-d - a) - (-d - b))
  have e3 : ((-d - a) + (-d - b)) * ((-d - a) + (-d - b)) = ((-d - a) - (-d - b)) * ((-d - a) - (-d - b)) + 4 * ((-d - a) * (-d - b)) := by grind
  have h5 : ((-d - a) + (-d - b)) * ((-d - a) + (-d - b)) ≥ 4 * (d * d) := by omega
  generalize hX : (-d - a) + (-d - b) = X at *
  have h6 : 0 < X := by omega
  have h7 : X * X < (2 * -d) * (2 * -d) := by
    have m1 := Int.mul_lt_mul_of_pos_left hsum h6
    have m2 := Int.mul_lt_mul_of_pos_right hsum (show 0 < 2 * -d by omega)
    omega
  have e4 : (2 * -d) * (2 * -d) = 4 * (d * d) := by grind
  omega
theorem sv_low {l : List Int} (hq : quadB l = true) {i : Nat} (hi : i < 4) (hlt : sv l i < l.getD i 0) : quadB (swl l i) = true := by
  rw [quad_swl hq hi, swl_get (by rw [quad_len hq]; exact hi), inB_iff]
  obtain ⟨a, b, c, d, rfl, ha, hb, hc, hd, hs, hf⟩ := quadB_iff.1 hq
  have za := ha
  have zb := hb
  have zc := hc
  have zd := hd
  unfold bq at za zb zc zd
  match i, hi with
  | 0, _ =>
    have := swap_form (x := a) (b := b) (c := c) (d := d) (by omega) (by grind)
    have hl := low_core (a := b) (b := c) (c := d) (d := 2 * (b + c + d) - a) hb hc hd (by omega) (by grind)
    simp only [sv, List.getD_cons_zero, List.sum_cons, List.sum_nil] at hlt ⊢
    omega
  | 1, _ =>
    have := swap_form (x := b) (b := a) (c := c) (d := d) (by omega) (by grind)
    have hl := low_core (a := a) (b := c) (c := d) (d := 2 * (a + c + d) - b) ha hc hd (by omega) (by grind)
    simp only [sv, List.getD_cons_zero, List.getD_cons_succ, List.sum_cons, List.sum_nil] at hlt ⊢
    omega
  | 2, _ =>
    have := swap_form (x := c) (b := a) (c := b) (d := d) (by omega) (by grind)
    have hl := low_core (a := a) (b := b) (c := d) (d := 2 * (a + b + d) - c) ha hb hd (by omega) (by grind)
    simp only [sv, List.getD_cons_zero, List.getD_cons_succ, List.sum_cons, List.sum_nil] at hlt ⊢
    omega
  | 3, _ =>
    have := swap_form (x := d) (b := a) (c := b) (d := c) (by omega) (by grind)
    have hl := low_core (a := a) (b := b) (c := c) (d := 2 * (a + b + c) - d) ha hb hc (by omega) (by grind)
    simp only [sv, List.getD_cons_zero, List.getD_cons_succ, List.sum_cons, List.sum_nil] at hlt ⊢
    omega
  | (i + 4), h => omega
theorem dwn_pos {l : List Int} (h : 0 ≤ dwn l) : dwn l = ((argm l 0 0 4 : Nat) : Int) ∧ sv l (argm l 0 0 4) < l.getD (argm l 0 0 4) 0 := by
  unfold dwn dres at h ⊢
  by_cases hc : l.getD (argm l 0 0 4) 0 ≤ sv l (argm l 0 0 4)
  · rw [if_pos hc] at h
    omega
  · rw [if_neg hc]
    exact ⟨rfl, by omega⟩
/-- the next quad on the way down -/
def nxt (l : List Int) : List Int := swl l (argm l 0 0 4)
theorem nxt_quad {l : List Int} (hq : quadB l = true) (h : 0 ≤ dwn l) : quadB (nxt l) = true := sv_low hq (argm4 l).2.2 (dwn_pos h).2
/-- at most n quads below one -/
def runD : Nat → List Int → List (List Int)
  | 0, _ => []
  | n + 1, q => if 0 ≤ dwn q then nxt q :: runD n (nxt q) else []
def wrdD : Nat → List Int → List Int
  | 0, _ => []
  | n + 1, q => if 0 ≤ dwn q then dwn q :: wrdD n (nxt q) else []
theorem runD_len (n : Nat) : ∀ q, (runD n q).length ≤ n := by
  induction n with
  | zero => intro q; simp [runD]
  | succ n ih =>
    intro q
    simp only [runD]
    split
    · simp only [List.length_cons]; have := ih (nxt q); omega
    · simp
theorem runD_quads (n : Nat) : ∀ q, quadB q = true → ∀ x ∈ runD n q, quadB x = true := by
  induction n with
  | zero => intro q _ x hx; simp [runD] at hx
  | succ n ih =>
    intro q hq x hx
    simp only [runD] at hx
    split at hx
    · rename_i h
      rcases List.mem_cons.1 hx with rfl | hx
      · exact nxt_quad hq h
      · exact ih _ (nxt_quad hq h) x hx
    · simp at hx
def pathR (q : List Int) : List (List Int) × Bool := if quadB q = true ∧ (runD 200 q).length < 200 then (q :: runD 200 q, true) else ([], false)
theorem pathR_len (q : List Int) : (pathR q).1.length ≤ 201 := by
  unfold pathR
  split
  · have := runD_len 200 q; simp; omega
  · simp
theorem clone_f (l : List Int) (h : l.length < 17592186044416) : slices_Clone_int_int_55.f l = some l := by
  unfold slices_Clone_int_int_55.f
  rw [if_pos h]
theorem down_l (n : Nat) : ∀ (q : List Int) (path : List (List Int)) (word : List Int), quadB q = true → path.length + n = 201 → 0 < n → word.length ≤ 1000 - n →
    Ev (fun k => impl_down.l0 k q path word) (if (runD n q).length < n then (path ++ runD n q, word ++ wrdD n q, true) else ([], [], false)) := by
  induction n with
  | zero => intro q path word _ _ h0; omega
  | succ n ih =>
    intro q path word hq hn _ hw
    have h4 := quad_len hq
    have hr := isRoot_ev hq
    rw [root_iff] at hr
    by_cases h : 0 ≤ dwn q
    · rw [decide_eq_false (show ¬ dwn q < 0 by omega)] at hr
      obtain ⟨e, hl⟩ := dwn_pos h
      have hqn := nxt_quad hq h
      have h4n := quad_len hqn
      refine Ev.step (f := fun k => (impl_isRoot.f k q).bind fun t => if t = true then some (path, word, true) else (impl_greatest.f k q).bind fun g => (impl_swapped.f k q g).bind fun s => (slices_Clone_int_int_55.f s).bind fun c => if path.length < 5864062014805 then ((some (path ++ [c] : List (List Int))).bind fun y => if word.length < 17592186044416 then (if (y.length : Int) > 200 then some ([], [], false) else impl_down.l0 k s y (word ++ [g])) else none) else none) (fun k => by simp only [impl_down.l0]) ?_
      refine Ev.bind hr ?_
      simp only [Bool.false_eq_true, if_false]
      refine Ev.bind (greatest_ev hq) ?_
      refine Ev.bind (swapped_ev hq (argm4 q).2.2) ?_
      have hcl := clone_f (nxt q) (by omega)
      unfold nxt at hcl
      rw [hcl]
      simp only [Option.bind_some, if_pos (show path.length < 5864062014805 by omega), if_pos (show word.length < 17592186044416 by omega), List.length_append, List.length_cons, List.length_nil]
      simp only [runD, wrdD, if_pos h, List.length_cons]
      by_cases hn0 : n = 0
      · subst hn0
        simp only [if_pos (show ((path.length + (0 + 1) : Nat) : Int) > 200 by omega), runD, List.length_nil, if_neg (show ¬ (0 + 1 < 0 + 1) by omega)]
        exact Ev.now _
      · simp only [if_neg (show ¬ ((path.length + (0 + 1) : Nat) : Int) > 200 by omega)]
        have := ih (nxt q) (path ++ [nxt q]) (word ++ [dwn q]) hqn (by simp; omega) (by omega) (by simp; omega)
        rw [← e]
        by_cases hlt : (runD n (nxt q)).length < n
        · rw [if_pos hlt] at this
          rw [if_pos (by omega)]
          simpa [nxt] using this
        · rw [if_neg hlt] at this
          rw [if_neg (by omega)]
          exact this
    · rw [decide_eq_true (show dwn q < 0 by omega)] at hr
      refine Ev.step (f := fun k => (impl_isRoot.f k q).bind fun t => if t = true then some (path, word, true) else (impl_greatest.f k q).bind fun g => (impl_swapped.f k q g).bind fun s => (slices_Clone_int_int_55.f s).bind fun c => if path.length < 5864062014805 then ((some (path ++ [c] : List (List Int))).bind fun y => if word.length < 17592186044416 then (if (y.length : Int) > 200 then some ([], [], false) else impl_down.l0 k s y (word ++ [g])) else none) else none) (fun k => by simp only [impl_down.l0]) ?_
      refine Ev.bind hr ?_
      simp only [if_true, runD, wrdD, if_neg h, List.length_nil, List.append_nil, if_pos (show 0 < n + 1 by omega)]
      exact Ev.now _
theorem down_ev {q : List Int} (hq : quadB q = true) : Ev (fun k => impl_down.f k q) (if (runD 200 q).length < 200 then (q :: runD 200 q, wrdD 200 q, true) else ([], [], false)) := by
  have h4 := quad_len hq
  unfold impl_down.f
  rw [clone_f q (by omega)]
  have := down_l 200 q [q] [] hq rfl (by decide) (by decide)
  simpa using this
theorem downI_ev (q : List Int) : Ev (fun k => impl_DownPath.f k q) (pathR q) := by
  unfold impl_DownPath.f pathR
  refine Ev.bind (isQuad_ev q) ?_
  cases hq : quadB q with
  | false => simp only [Bool.false_eq_true, if_false, false_and]; exact Ev.now _
  | true =>
    simp only [if_true, true_and]
    refine Ev.bind (down_ev hq) ?_
    by_cases h : (runD 200 q).length < 200
    · simp only [if_pos h]; exact Ev.now _
    · simp only [if_neg h]; exact Ev.now _
/-- The root to which a quad comes. -/
def rootR (q : List Int) : List Int × Bool := if (pathR q).2 = true then (sortI ((pathR q).1.getLastD []), true) else ([], false)
theorem pathR_ne {q : List Int} (h : (pathR q).2 = true) : (pathR q).1 ≠ [] := by
  unfold pathR at *
  split at h
  · rename_i h1; rw [if_pos h1]; simp
  · cases h
theorem pathR_quads {q : List Int} {x : List Int} (h : x ∈ (pathR q).1) : quadB x = true := by
  unfold pathR at h
  split at h
  · rename_i h1
    rcases List.mem_cons.1 h with rfl | hx
    · exact h1.1
    · exact runD_quads 200 q h1.1 x hx
  · cases h
theorem last_rd {l : List (List Int)} (h : l ≠ []) (hl : l.length ≤ 1000) : 0 ≤ wrap64 ((l.length : Int) - 1) ∧ wrap64 ((l.length : Int) - 1) < (l.length : Int) ∧ rd_L2 l (wrap64 ((l.length : Int) - 1)) = l.getLastD [] := by
  have hp : 0 < l.length := List.length_pos_iff.2 h
  rw [wrap_id (by omega) (by omega)]
  refine ⟨by omega, by omega, ?_⟩
  rw [show ((l.length : Int) - 1) = ((l.length - 1 : Nat) : Int) by omega]
  simp [rd_L2, List.getD_eq_getElem?_getD, List.getLastD_eq_getLast?, List.getLast?_eq_getElem?]
theorem last_quad {q : List Int} (h : (pathR q).2 = true) : quadB ((pathR q).1.getLastD []) = true := by
  have hne := pathR_ne h
  refine pathR_quads (q := q) ?_
  rw [List.getLastD_eq_getLast?, List.getLast?_eq_some_getLast hne]
  exact List.getLast_mem hne
theorem rootI_ev (q : List Int) : Ev (fun k => impl_RootQuad.f k q) (rootR q) := by
  unfold impl_RootQuad.f rootR
  refine Ev.bind (downI_ev q) ?_
  cases h : (pathR q).2 with
  | false => simp only [Bool.false_eq_true, if_false]; exact Ev.now _
  | true =>
    obtain ⟨h1, h2, h3⟩ := last_rd (pathR_ne h) (by have := pathR_len q; omega)
    have h4 := quad_len (last_quad h)
    simp only [if_true, if_pos h1, if_pos h2, h3]
    have : slices_Sorted_int.f ((pathR q).1.getLastD []) = some (sortI ((pathR q).1.getLastD [])) := by
      unfold slices_Sorted_int.f
      rw [if_pos (by rw [h4]; rfl)]
    rw [this]
    exact Ev.now _
def cellsOf : List (List Int) → Nat
  | [] => 0
  | r :: rs => r.length + cellsOf rs
def tab : Nat → List (List Int)
  | 1 => [[-1, 2, 2, 3]]
  | 2 => [[-2, 3, 6, 7]]
  | 3 => [[-3, 4, 12, 13], [-3, 5, 8, 8]]
  | 4 => [[-4, 5, 20, 21], [-4, 8, 9, 9]]
  | 5 => [[-5, 6, 30, 31], [-5, 7, 18, 18]]
  | 6 => [[-6, 7, 42, 43], [-6, 10, 15, 19], [-6, 11, 14, 15]]
  | 7 => [[-7, 8, 56, 57], [-7, 9, 32, 32], [-7, 12, 17, 20]]
  | 8 => [[-8, 9, 72, 73], [-8, 12, 25, 25], [-8, 13, 21, 24]]
  | 9 => [[-9, 10, 90, 91], [-9, 11, 50, 50], [-9, 14, 26, 27], [-9, 18, 19, 22]]
  | 10 => [[-10, 11, 110, 111], [-10, 14, 35, 39], [-10, 18, 23, 27]]
  | 11 => [[-11, 12, 132, 133], [-11, 13, 72, 72], [-11, 16, 36, 37], [-11, 21, 24, 28]]
  | 12 => [[-12, 13, 156, 157], [-12, 16, 49, 49], [-12, 17, 41, 44], [-12, 21, 28, 37], [-12, 21, 29, 32], [-12, 25, 25, 28]]
  | 13 => [[-13, 14, 182, 183], [-13, 15, 98, 98], [-13, 18, 47, 50], [-13, 23, 30, 38]]
  | 14 => [[-14, 15, 210, 211], [-14, 18, 63, 67], [-14, 19, 54, 55], [-14, 22, 39, 43], [-14, 27, 31, 34]]
  | 15 => [[-15, 16, 240, 241], [-15, 17, 128, 128], [-15, 24, 40, 49], [-15, 24, 41, 44], [-15, 28, 33, 40], [-15, 32, 32, 33]]
  | 16 => [[-16, 17, 272, 273], [-16, 20, 81, 81], [-16, 21, 68, 69], [-16, 29, 36, 45], [-16, 32, 33, 41]]
  | 17 => [[-17, 18, 306, 307], [-17, 19, 162, 162], [-17, 22, 75, 78], [-17, 27, 46, 54], [-17, 30, 42, 43]]
  | 18 => [[-18, 19, 342, 343], [-18, 22, 99, 103], [-18, 23, 83, 86], [-18, 26, 59, 63], [-18, 27, 55, 58], [-18, 31, 43, 54], [-18, 35, 38, 47]]
  | 19 => [[-19, 20, 380, 381], [-19, 21, 200, 200], [-19, 24, 92, 93], [-19, 29, 56, 60], [-19, 32, 48, 53], [-19, 36, 44, 45]]
  | 20 => [[-20, 21, 420, 421], [-20, 24, 121, 121], [-20, 33, 52, 57], [-20, 36, 45, 61], [-20, 36, 49, 49], [-20, 37, 45, 52]]
  | 21 => [[-21, 22, 462, 463], [-21, 23, 242, 242], [-21, 26, 110, 111], [-21, 30, 70, 79], [-21, 30, 71, 74], [-21, 31, 66, 70], [-21, 34, 55, 66], [-21, 38, 47, 62], [-21, 39, 46, 58], [-21, 39, 50, 50]]
  | 22 => [[-22, 23, 506, 507], [-22, 26, 143, 147], [-22, 27, 119, 122], [-22, 30, 83, 87], [-22, 35, 62, 63], [-22, 39, 51, 62], [-22, 42, 47, 59]]
  | 23 => [[-23, 24, 552, 553], [-23, 25, 288, 288], [-23, 28, 129, 132], [-23, 33, 76, 84], [-23, 36, 64, 73], [-23, 40, 57, 60], [-23, 48, 49, 52]]
  | 24 => [[-24, 25, 600, 601], [-24, 28, 169, 169], [-24, 29, 140, 141], [-24, 33, 88, 97], [-24, 33, 89, 92], [-24, 37, 69, 76], [-24, 40, 61, 69], [-24, 41, 60, 65], [-24, 44, 53, 69], [-24, 49, 49, 60]]
  | 25 => [[-25, 26, 650, 651], [-25, 27, 338, 338], [-25, 38, 75, 78], [-25, 42, 62, 75], [-25, 50, 51, 66], [-25, 50, 54, 59]]
  | 26 => [[-26, 27, 702, 703], [-26, 30, 195, 199], [-26, 31, 162, 163], [-26, 34, 111, 115], [-26, 43, 66, 79], [-26, 46, 63, 67], [-26, 51, 55, 66]]
  | 27 => [[-27, 28, 756, 757], [-27, 29, 392, 392], [-27, 32, 173, 176], [-27, 36, 109, 112], [-27, 37, 100, 108], [-27, 40, 85, 88], [-27, 44, 72, 77], [-27, 45, 68, 80], [-27, 52, 61, 64], [-27, 53, 56, 72]]
  | 28 => [[-28, 29, 812, 813], [-28, 32, 225, 225], [-28, 33, 185, 188], [-28, 41, 89, 96], [-28, 44, 77, 93], [-28, 44, 81, 81], [-28, 45, 77, 80], [-28, 48, 69, 77], [-28, 53, 60, 77], [-28, 57, 60, 65]]
  | 29 => [[-29, 30, 870, 871], [-29, 31, 450, 450], [-29, 34, 198, 199], [-29, 39, 114, 118], [-29, 42, 94, 103], [-29, 46, 79, 90], [-29, 54, 63, 82], [-29, 55, 66, 70]]
  | 30 => [[-30, 31, 930, 931], [-30, 34, 255, 259], [-30, 38, 143, 147], [-30, 39, 130, 139], [-30, 39, 131, 134], [-30, 43, 102, 103], [-30, 47, 83, 98], [-30, 55, 66, 91], [-30, 55, 67, 82], [-30, 59, 66, 71]]
  | _ => []
theorem tab_s1 : spec_apRoots.f 4000 ((1 : Nat) : Int) = some (tab 1) := by kernel_rfl
theorem tab_i1 : impl_rootsWith.f 4000 ((1 : Nat) : Int) = some (tab 1) := by kernel_rfl
theorem tab_s2 : spec_apRoots.f 4000 ((2 : Nat) : Int) = some (tab 2) := by kernel_rfl
theorem tab_i2 : impl_rootsWith.f 4000 ((2 : Nat) : Int) = some (tab 2) := by kernel_rfl
theorem tab_s3 : spec_apRoots.f 4000 ((3 : Nat) : Int) = some (tab 3) := by kernel_rfl
theorem tab_i3 : impl_rootsWith.f 4000 ((3 : Nat) : Int) = some (tab 3) := by kernel_rfl
theorem tab_s4 : spec_apRoots.f 4000 ((4 : Nat) : Int) = some (tab 4) := by kernel_rfl
theorem tab_i4 : impl_rootsWith.f 4000 ((4 : Nat) : Int) = some (tab 4) := by kernel_rfl
theorem tab_s5 : spec_apRoots.f 4000 ((5 : Nat) : Int) = some (tab 5) := by kernel_rfl
theorem tab_i5 : impl_rootsWith.f 4000 ((5 : Nat) : Int) = some (tab 5) := by kernel_rfl
theorem tab_s6 : spec_apRoots.f 4000 ((6 : Nat) : Int) = some (tab 6) := by kernel_rfl
theorem tab_i6 : impl_rootsWith.f 4000 ((6 : Nat) : Int) = some (tab 6) := by kernel_rfl
theorem tab_s7 : spec_apRoots.f 4000 ((7 : Nat) : Int) = some (tab 7) := by kernel_rfl
theorem tab_i7 : impl_rootsWith.f 4000 ((7 : Nat) : Int) = some (tab 7) := by kernel_rfl
theorem tab_s8 : spec_apRoots.f 4000 ((8 : Nat) : Int) = some (tab 8) := by kernel_rfl
theorem tab_i8 : impl_rootsWith.f 4000 ((8 : Nat) : Int) = some (tab 8) := by kernel_rfl
theorem tab_s9 : spec_apRoots.f 4000 ((9 : Nat) : Int) = some (tab 9) := by kernel_rfl
theorem tab_i9 : impl_rootsWith.f 4000 ((9 : Nat) : Int) = some (tab 9) := by kernel_rfl
theorem tab_s10 : spec_apRoots.f 4000 ((10 : Nat) : Int) = some (tab 10) := by kernel_rfl
theorem tab_i10 : impl_rootsWith.f 4000 ((10 : Nat) : Int) = some (tab 10) := by kernel_rfl
theorem tab_s11 : spec_apRoots.f 4000 ((11 : Nat) : Int) = some (tab 11) := by kernel_rfl
theorem tab_i11 : impl_rootsWith.f 4000 ((11 : Nat) : Int) = some (tab 11) := by kernel_rfl
theorem tab_s12 : spec_apRoots.f 4000 ((12 : Nat) : Int) = some (tab 12) := by kernel_rfl
theorem tab_i12 : impl_rootsWith.f 4000 ((12 : Nat) : Int) = some (tab 12) := by kernel_rfl
theorem tab_s13 : spec_apRoots.f 4000 ((13 : Nat) : Int) = some (tab 13) := by kernel_rfl
theorem tab_i13 : impl_rootsWith.f 4000 ((13 : Nat) : Int) = some (tab 13) := by kernel_rfl
theorem tab_s14 : spec_apRoots.f 4000 ((14 : Nat) : Int) = some (tab 14) := by kernel_rfl
theorem tab_i14 : impl_rootsWith.f 4000 ((14 : Nat) : Int) = some (tab 14) := by kernel_rfl
theorem tab_s15 : spec_apRoots.f 4000 ((15 : Nat) : Int) = some (tab 15) := by kernel_rfl
theorem tab_i15 : impl_rootsWith.f 4000 ((15 : Nat) : Int) = some (tab 15) := by kernel_rfl
theorem tab_s16 : spec_apRoots.f 4000 ((16 : Nat) : Int) = some (tab 16) := by kernel_rfl
theorem tab_i16 : impl_rootsWith.f 4000 ((16 : Nat) : Int) = some (tab 16) := by kernel_rfl
theorem tab_s17 : spec_apRoots.f 4000 ((17 : Nat) : Int) = some (tab 17) := by kernel_rfl
theorem tab_i17 : impl_rootsWith.f 4000 ((17 : Nat) : Int) = some (tab 17) := by kernel_rfl
theorem tab_s18 : spec_apRoots.f 4000 ((18 : Nat) : Int) = some (tab 18) := by kernel_rfl
theorem tab_i18 : impl_rootsWith.f 4000 ((18 : Nat) : Int) = some (tab 18) := by kernel_rfl
theorem tab_s19 : spec_apRoots.f 4000 ((19 : Nat) : Int) = some (tab 19) := by kernel_rfl
theorem tab_i19 : impl_rootsWith.f 4000 ((19 : Nat) : Int) = some (tab 19) := by kernel_rfl
theorem tab_s20 : spec_apRoots.f 4000 ((20 : Nat) : Int) = some (tab 20) := by kernel_rfl
theorem tab_i20 : impl_rootsWith.f 4000 ((20 : Nat) : Int) = some (tab 20) := by kernel_rfl
theorem tab_s21 : spec_apRoots.f 4000 ((21 : Nat) : Int) = some (tab 21) := by kernel_rfl
theorem tab_i21 : impl_rootsWith.f 4000 ((21 : Nat) : Int) = some (tab 21) := by kernel_rfl
theorem tab_s22 : spec_apRoots.f 4000 ((22 : Nat) : Int) = some (tab 22) := by kernel_rfl
theorem tab_i22 : impl_rootsWith.f 4000 ((22 : Nat) : Int) = some (tab 22) := by kernel_rfl
theorem tab_s23 : spec_apRoots.f 4000 ((23 : Nat) : Int) = some (tab 23) := by kernel_rfl
theorem tab_i23 : impl_rootsWith.f 4000 ((23 : Nat) : Int) = some (tab 23) := by kernel_rfl
theorem tab_s24 : spec_apRoots.f 4000 ((24 : Nat) : Int) = some (tab 24) := by kernel_rfl
theorem tab_i24 : impl_rootsWith.f 4000 ((24 : Nat) : Int) = some (tab 24) := by kernel_rfl
theorem tab_s25 : spec_apRoots.f 4000 ((25 : Nat) : Int) = some (tab 25) := by kernel_rfl
theorem tab_i25 : impl_rootsWith.f 4000 ((25 : Nat) : Int) = some (tab 25) := by kernel_rfl
theorem tab_s26 : spec_apRoots.f 4000 ((26 : Nat) : Int) = some (tab 26) := by kernel_rfl
theorem tab_i26 : impl_rootsWith.f 4000 ((26 : Nat) : Int) = some (tab 26) := by kernel_rfl
theorem tab_s27 : spec_apRoots.f 4000 ((27 : Nat) : Int) = some (tab 27) := by kernel_rfl
theorem tab_i27 : impl_rootsWith.f 4000 ((27 : Nat) : Int) = some (tab 27) := by kernel_rfl
theorem tab_s28 : spec_apRoots.f 4000 ((28 : Nat) : Int) = some (tab 28) := by kernel_rfl
theorem tab_i28 : impl_rootsWith.f 4000 ((28 : Nat) : Int) = some (tab 28) := by kernel_rfl
theorem tab_s29 : spec_apRoots.f 4000 ((29 : Nat) : Int) = some (tab 29) := by kernel_rfl
theorem tab_i29 : impl_rootsWith.f 4000 ((29 : Nat) : Int) = some (tab 29) := by kernel_rfl
theorem tab_s30 : spec_apRoots.f 4000 ((30 : Nat) : Int) = some (tab 30) := by kernel_rfl
theorem tab_i30 : impl_rootsWith.f 4000 ((30 : Nat) : Int) = some (tab 30) := by kernel_rfl
theorem tab_all (n : Nat) (h0 : 1 ≤ n) (h1 : n ≤ 30) : spec_apRoots.f 4000 n = some (tab n) ∧ impl_rootsWith.f 4000 n = some (tab n) ∧ (tab n).length ≤ 10 ∧ cellsOf (tab n) ≤ 100 := by
  match n, h0, h1 with
  | 1, _, _ => exact ⟨tab_s1, tab_i1, by simp [tab], by simp [tab, cellsOf]⟩
  | 2, _, _ => exact ⟨tab_s2, tab_i2, by simp [tab], by simp [tab, cellsOf]⟩
  | 3, _, _ => exact ⟨tab_s3, tab_i3, by simp [tab], by simp [tab, cellsOf]⟩
  | 4, _, _ => exact ⟨tab_s4, tab_i4, by simp [tab], by simp [tab, cellsOf]⟩
  | 5, _, _ => exact ⟨tab_s5, tab_i5, by simp [tab], by simp [tab, cellsOf]⟩
  | 6, _, _ => exact ⟨tab_s6, tab_i6, by simp [tab], by simp [tab, cellsOf]⟩
  | 7, _, _ => exact ⟨tab_s7, tab_i7, by simp [tab], by simp [tab, cellsOf]⟩
  | 8, _, _ => exact ⟨tab_s8, tab_i8, by simp [tab], by simp [tab, cellsOf]⟩
  | 9, _, _ => exact ⟨tab_s9, tab_i9, by simp [tab], by simp [tab, cellsOf]⟩
  | 10, _, _ => exact ⟨tab_s10, tab_i10, by simp [tab], by simp [tab, cellsOf]⟩
  | 11, _, _ => exact ⟨tab_s11, tab_i11, by simp [tab], by simp [tab, cellsOf]⟩
  | 12, _, _ => exact ⟨tab_s12, tab_i12, by simp [tab], by simp [tab, cellsOf]⟩
  | 13, _, _ => exact ⟨tab_s13, tab_i13, by simp [tab], by simp [tab, cellsOf]⟩
  | 14, _, _ => exact ⟨tab_s14, tab_i14, by simp [tab], by simp [tab, cellsOf]⟩
  | 15, _, _ => exact ⟨tab_s15, tab_i15, by simp [tab], by simp [tab, cellsOf]⟩
  | 16, _, _ => exact ⟨tab_s16, tab_i16, by simp [tab], by simp [tab, cellsOf]⟩
  | 17, _, _ => exact ⟨tab_s17, tab_i17, by simp [tab], by simp [tab, cellsOf]⟩
  | 18, _, _ => exact ⟨tab_s18, tab_i18, by simp [tab], by simp [tab, cellsOf]⟩
  | 19, _, _ => exact ⟨tab_s19, tab_i19, by simp [tab], by simp [tab, cellsOf]⟩
  | 20, _, _ => exact ⟨tab_s20, tab_i20, by simp [tab], by simp [tab, cellsOf]⟩
  | 21, _, _ => exact ⟨tab_s21, tab_i21, by simp [tab], by simp [tab, cellsOf]⟩
  | 22, _, _ => exact ⟨tab_s22, tab_i22, by simp [tab], by simp [tab, cellsOf]⟩
  | 23, _, _ => exact ⟨tab_s23, tab_i23, by simp [tab], by simp [tab, cellsOf]⟩
  | 24, _, _ => exact ⟨tab_s24, tab_i24, by simp [tab], by simp [tab, cellsOf]⟩
  | 25, _, _ => exact ⟨tab_s25, tab_i25, by simp [tab], by simp [tab, cellsOf]⟩
  | 26, _, _ => exact ⟨tab_s26, tab_i26, by simp [tab], by simp [tab, cellsOf]⟩
  | 27, _, _ => exact ⟨tab_s27, tab_i27, by simp [tab], by simp [tab, cellsOf]⟩
  | 28, _, _ => exact ⟨tab_s28, tab_i28, by simp [tab], by simp [tab, cellsOf]⟩
  | 29, _, _ => exact ⟨tab_s29, tab_i29, by simp [tab], by simp [tab, cellsOf]⟩
  | 30, _, _ => exact ⟨tab_s30, tab_i30, by simp [tab], by simp [tab, cellsOf]⟩
  | n + 31, _, h => omega

theorem u64w (x : Int) : 0 ≤ IntKind.u64.wrap x ∧ IntKind.u64.wrap x < 18446744073709551616 := by
  rw [IntKind.wrap_u64]
  omega
theorem and255 (X : Int) (h0 : 0 ≤ X) (h1 : X < 18446744073709551616) : 0 ≤ Go.bits .and .u64 X 255 ∧ Go.bits .and .u64 X 255 ≤ 255 := by
  rw [u64_and X 255 h0 h1 (by omega) (by omega)]
  have : X.toNat &&& (255 : Int).toNat ≤ (255 : Int).toNat := Nat.and_le_right
  omega
def Bytes (s : List Int) : Prop := ∀ x ∈ s, 0 ≤ x ∧ x ≤ 255
theorem next_ok {s : List Int} (hs : Bytes s) {a : Int} (z : Int) (h0 : 0 ≤ a) (h1 : a ≤ 1000000000) : ∃ x z', spec_l1Cur_next.f s a z = some (x, a + 1, z') ∧ 0 ≤ x ∧ x ≤ 255 := by
  unfold spec_l1Cur_next.f
  rw [wrap_id (x := a + 1) (by omega) (by omega)]
  have hb : ∀ y, 0 ≤ wrap64 (Go.bits .and .u64 (IntKind.u64.wrap y / 1099511627776) 255) ∧ wrap64 (Go.bits .and .u64 (IntKind.u64.wrap y / 1099511627776) 255) ≤ 255 := by
    intro y
    have h := u64w y
    have := and255 (IntKind.u64.wrap y / 1099511627776) (by omega) (by omega)
    rw [wrap_id (by omega) (by omega)]
    exact this
  by_cases c : a < s.length
  · have hr : 0 ≤ rd s a ∧ rd s a ≤ 255 := by
      obtain ⟨i, rfl⟩ : ∃ i : Nat, a = i := ⟨a.toNat, by omega⟩
      rw [rdi_at (by omega)]
      exact hs _ (List.getElem_mem _)
    rw [wrap_id (x := rd s a) (by omega) (by omega), if_pos c, if_pos h0]
    by_cases e : a + 1 ≤ s.length
    · rw [if_pos e]; exact ⟨_, _, rfl, hr⟩
    · rw [if_neg e]; exact ⟨_, _, rfl, hb _⟩
  · rw [if_neg c]
    by_cases e : a + 1 ≤ s.length
    · rw [if_pos e]; exact ⟨_, _, rfl, by omega, by omega⟩
    · rw [if_neg e]; exact ⟨_, _, rfl, hb _⟩
theorem pick_ok {s : List Int} (hs : Bytes s) {a : Int} (z : Int) (h0 : 0 ≤ a) (h1 : a ≤ 1000000000) {n : Int} (hn : n ≤ 200) : ∃ x a' z', spec_l1Cur_pick.f s a z n = some (x, a', z') ∧ 0 ≤ x ∧ (1 ≤ n → x < n) ∧ a ≤ a' ∧ a' ≤ a + 1 := by
  unfold spec_l1Cur_pick.f
  by_cases c : n ≤ 1
  · rw [if_pos c]; exact ⟨_, _, _, rfl, by omega, by omega, by omega, by omega⟩
  · obtain ⟨x, z', hx, x0, x1⟩ := next_ok hs z h0 h1
    rw [if_neg c, hx]
    simp only [Option.bind_some]
    rw [if_neg (by omega), if_neg (by omega), Int.tmod_eq_emod_of_nonneg x0]
    exact ⟨_, _, _, rfl, Int.emod_nonneg _ (by omega), fun _ => Int.emod_lt_of_pos _ (by omega), by omega, by omega⟩
theorem among_ok {s : List Int} (hs : Bytes s) {a : Int} (z : Int) (h0 : 0 ≤ a) (h1 : a ≤ 1000000000) {l : List Int} (hl : 0 < l.length) (h2 : l.length ≤ 200) : ∃ v a' z', spec_l1Cur_among.f s a z l = some (v, a', z') ∧ v ∈ l ∧ a ≤ a' ∧ a' ≤ a + 1 := by
  obtain ⟨x, a', z', hp, x0, xn, a0, a1⟩ := pick_ok hs z h0 h1 (n := (l.length : Int)) (by omega)
  have := xn (by omega)
  obtain ⟨i, rfl⟩ : ∃ i : Nat, x = i := ⟨x.toNat, by omega⟩
  refine ⟨l[i]'(by omega), a', z', ?_, List.getElem_mem _, a0, a1⟩
  unfold spec_l1Cur_among.f
  rw [hp]
  simp only [Option.bind_some]
  rw [if_pos (by omega), if_pos (by omega), rdi_at (by omega)]
theorem IsRootI_ev (q : List Int) : Ev (fun k => impl_IsRoot.f k q) (if quadB q = true then (rootB q 0 4, true) else (false, false)) := by
  have hu := isQuad_ev q
  unfold impl_IsRoot.f
  refine Ev.bind hu ?_
  by_cases h : quadB q = true
  · simp only [h, if_true]
    exact Ev.bind (isRoot_ev h) (Ev.now _)
  · simp only [Bool.eq_false_iff.2 h, Bool.false_eq_true, if_false]
    exact Ev.now _
def gcd4 (q : List Int) : Int := ((Nat.gcd (Nat.gcd (q.getD 0 0).natAbs (q.getD 1 0).natAbs) (Nat.gcd (q.getD 2 0).natAbs (q.getD 3 0).natAbs) : Nat) : Int)
theorem scaleG_ev (a b c d : Int) (ha : bq a) (hb : bq b) (hc : bq c) (hd : bq d) : Ev (fun k => impl_scale.f k [a, b, c, d]) (gcd4 [a, b, c, d]) := by
  unfold bq at ha hb hc hd
  have le : ∀ x y : Nat, x ≤ 100000 → y ≤ 100000 → Nat.gcd x y ≤ 100000 := fun x y hx hy => by
    rcases Nat.eq_zero_or_pos y with h | h
    · subst h; rw [Nat.gcd_zero_right]; exact hx
    · exact Nat.le_trans (Nat.gcd_le_right _ h) hy
  have g1 := le a.natAbs b.natAbs (by omega) (by omega)
  have g2 := le c.natAbs d.natAbs (by omega) (by omega)
  show Ev (fun k => impl_scale.f k [a, b, c, d]) ((Nat.gcd (Nat.gcd a.natAbs b.natAbs) (Nat.gcd c.natAbs d.natAbs) : Nat) : Int)
  have e1 := divisorZ_ev _ 0 a rfl (by omega) (by omega)
  have e2 := divisorZ_ev _ ((Nat.gcd 0 a.natAbs : Nat) : Int) b rfl (by rw [Nat.gcd_zero_left]; omega) (by omega)
  have e3 := divisorZ_ev _ ((Nat.gcd a.natAbs b.natAbs : Nat) : Int) c rfl (by omega) (by omega)
  have g3 := le (Nat.gcd a.natAbs b.natAbs) c.natAbs g1 (by omega)
  have e4 := divisorZ_ev _ ((Nat.gcd (Nat.gcd a.natAbs b.natAbs) c.natAbs : Nat) : Int) d rfl (by omega) (by omega)
  simp only [Int.natAbs_zero, Nat.gcd_zero_left, Int.natAbs_natCast] at e1 e2 e3 e4
  rw [Nat.gcd_assoc (Nat.gcd a.natAbs b.natAbs) c.natAbs d.natAbs] at e4
  unfold impl_scale.f
  refine Ev.step (f := fun k => (impl_divisor.f k 0 a).bind fun t => impl_scale.l0 k t [a, b, c, d] 4 1) (fun k => ?_) ?_
  · simp only [impl_scale.l0, len4, r40, w01, if_pos i04, if_pos i00]
  refine Ev.bind e1 (Ev.step (f := fun k => (impl_divisor.f k ((a.natAbs : Nat) : Int) b).bind fun t => impl_scale.l0 k t [a, b, c, d] 4 2) (fun k => ?_) ?_)
  · simp only [impl_scale.l0, len4, r41, w12, if_pos i14, if_pos i01]
  refine Ev.bind e2 (Ev.step (f := fun k => (impl_divisor.f k ((Nat.gcd a.natAbs b.natAbs : Nat) : Int) c).bind fun t => impl_scale.l0 k t [a, b, c, d] 4 3) (fun k => ?_) ?_)
  · simp only [impl_scale.l0, len4, r42, w23, if_pos i24, if_pos i02]
  refine Ev.bind e3 (Ev.step (f := fun k => (impl_divisor.f k ((Nat.gcd (Nat.gcd a.natAbs b.natAbs) c.natAbs : Nat) : Int) d).bind fun t => impl_scale.l0 k t [a, b, c, d] 4 4) (fun k => ?_) ?_)
  · simp only [impl_scale.l0, len4, r43, w34, if_pos i34, if_pos i03]
  refine Ev.bind e4 (Ev.step (f := fun _ => some ((Nat.gcd (Nat.gcd a.natAbs b.natAbs) (Nat.gcd c.natAbs d.natAbs) : Nat) : Int)) (fun k => ?_) (Ev.now _))
  simp only [impl_scale.l0, if_neg i44]
theorem ScaleI_ev (q : List Int) : Ev (fun k => impl_ScaleOf.f k q) (if quadB q = true then (gcd4 q, true) else (0, false)) := by
  have hu := isQuad_ev q
  unfold impl_ScaleOf.f
  refine Ev.bind hu ?_
  by_cases h : quadB q = true
  · obtain ⟨a, b, c, d, rfl, h0, h1, h2, h3, _⟩ := quadB_iff.1 h
    simp only [h, if_true]
    exact Ev.bind (scaleG_ev a b c d h0 h1 h2 h3) (Ev.now _)
  · simp only [Bool.eq_false_iff.2 h, Bool.false_eq_true, if_false]
    exact Ev.now _
/-- A root as the table has it. -/
def tabOk (q : List Int) : Bool := quadB q && rootB q 0 4 && decide (rootR q = (q, true)) && decide (gcd4 q = 1)
/-- Does the law count it? -/
def hitB (q : List Int) : Bool := quadB q && rootB q 0 4 && decide (gcd4 q = 1)
def hitsD (n b c : Int) : Nat → Int → Int → Int
  | 0, _, acc => acc
  | e + 1, d, acc => hitsD n b c e (d + 1) (if hitB [-n, b, c, d] = true then acc + 1 else acc)
def hitsC (n b : Int) : Nat → Int → Int → Int
  | 0, _, acc => acc
  | e + 1, c, acc => hitsC n b e (c + 1) (hitsD n b c (e + 1) c acc)
def hitsB (n : Int) : Nat → Int → Int → Int
  | 0, _, acc => acc
  | e + 1, b, acc => hitsB n e (b + 1) (hitsC n b (e + 1) b acc)

end Go.Proofs.Ytgjgoeodhioeiaa.P
