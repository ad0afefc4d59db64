import Derived.Test.YtmjodkckffmnaaaP1
import Derived.Test.YtmjodkckffmnaaaP2
import Derived.Test.YtmjodkckffmnaaaCm
namespace Go.Proofs.Ytmjodkckffmnaaa.P
open Go.RowKit Go.Proofs.YtmjodkckffmnaaaW.PrintWords Go.Proofs.YtmjodkckffmnaaaW.PrintLast Go.Proofs.YtmjodkckffmnaaaW.PrintMore
/-! Quads: what both tests say; swaps; the greatest. -/
def bq (x : Int) : Prop := -100000 ≤ x ∧ x ≤ 100000
theorem sqb {a b A B : Int} (h0 : -A ≤ a) (h1 : a ≤ A) (h2 : -B ≤ b) (h3 : b ≤ B) : -(A * B) ≤ a * b ∧ a * b ≤ A * B := by
  have p1 := Int.mul_nonneg (show 0 ≤ A - a by omega) (show 0 ≤ B + b by omega)
  have p2 := Int.mul_nonneg (show 0 ≤ A + a by omega) (show 0 ≤ B - b by omega)
  have p3 := Int.mul_nonneg (show 0 ≤ A - a by omega) (show 0 ≤ B - b by omega)
  have p4 := Int.mul_nonneg (show 0 ≤ A + a by omega) (show 0 ≤ B + b by omega)
  constructor <;> grind
def form4 (a b c d : Int) : Bool := decide (a + b + c + d > 0) && (2 * (a * a + b * b + c * c + d * d) == (a + b + c + d) * (a + b + c + d))
def quadB (l : List Int) : Bool := (decide (l.length = 4) && l.all (inB (-100000) 100000)) && match l with
  | [a, b, c, d] => form4 a b c d
  | _ => false
theorem four {l : List Int} (h : l.length = 4) : ∃ a b c d, l = [a, b, c, d] := by
  match l, h with
  | [a, b, c, d], _ => exact ⟨a, b, c, d, rfl⟩
theorem quadB_iff {l : List Int} : quadB l = true ↔ ∃ a b c d, l = [a, b, c, d] ∧ bq a ∧ bq b ∧ bq c ∧ bq d ∧ a + b + c + d > 0 ∧ 2 * (a * a + b * b + c * c + d * d) = (a + b + c + d) * (a + b + c + d) := by
  constructor
  · intro h
    simp only [quadB, Bool.and_eq_true, decide_eq_true_eq] at h
    obtain ⟨a, b, c, d, rfl⟩ := four h.1.1
    simp only [List.all_cons, List.all_nil, Bool.and_true, Bool.and_eq_true, inB_iff, form4, decide_eq_true_eq, beq_iff_eq] at h
    exact ⟨a, b, c, d, rfl, h.1.2.1, h.1.2.2.1, h.1.2.2.2.1, h.1.2.2.2.2, h.2.1, h.2.2⟩
  · rintro ⟨a, b, c, d, rfl, h0, h1, h2, h3, h4, h5⟩
    simp only [quadB, Bool.and_eq_true, decide_eq_true_eq, List.all_cons, List.all_nil, Bool.and_true, inB_iff, form4, beq_iff_eq, List.length_cons, List.length_nil]
    exact ⟨⟨trivial, h0, h1, h2, h3⟩, h4, h5⟩
theorem r40 (a b c d : Int) : rd [a, b, c, d] 0 = a := Eq.trans rfl rfl
theorem r41 (a b c d : Int) : rd [a, b, c, d] 1 = b := Eq.trans rfl rfl
theorem r42 (a b c d : Int) : rd [a, b, c, d] 2 = c := Eq.trans rfl rfl
theorem r43 (a b c d : Int) : rd [a, b, c, d] 3 = d := Eq.trans rfl rfl
theorem w01 : wrap64 (0 + 1) = 1 := wrap_id (x := 0 + 1) (by decide) (by decide)
theorem w12 : wrap64 (1 + 1) = 2 := wrap_id (x := 1 + 1) (by decide) (by decide)
theorem w23 : wrap64 (2 + 1) = 3 := wrap_id (x := 2 + 1) (by decide) (by decide)
theorem w34 : wrap64 (3 + 1) = 4 := wrap_id (x := 3 + 1) (by decide) (by decide)
theorem i04 : (0 : Int) < 4 := by decide
theorem i14 : (1 : Int) < 4 := by decide
theorem i24 : (2 : Int) < 4 := by decide
theorem i34 : (3 : Int) < 4 := by decide
theorem i44 : ¬ (4 : Int) < 4 := by decide
theorem i00 : (0 : Int) ≤ 0 := by decide
theorem i01 : (0 : Int) ≤ 1 := by decide
theorem i02 : (0 : Int) ≤ 2 := by decide
theorem i03 : (0 : Int) ≤ 3 := by decide
theorem len4 (a b c d : Int) : (([a, b, c, d] : List Int).length : Int) = 4 := rfl
theorem sums {a b c d : Int} (h0 : bq a) (h1 : bq b) (h2 : bq c) (h3 : bq d) :
    (0 ≤ a * a ∧ a * a ≤ 10000000000) ∧ (0 ≤ b * b ∧ b * b ≤ 10000000000) ∧ (0 ≤ c * c ∧ c * c ≤ 10000000000) ∧ (0 ≤ d * d ∧ d * d ≤ 10000000000) ∧ -160000000000 ≤ (a + b + c + d) * (a + b + c + d) ∧ (a + b + c + d) * (a + b + c + d) ≤ 160000000000 := by
  unfold bq at *
  have nn : ∀ x : Int, 0 ≤ x * x := fun x => by
    rcases Int.le_total 0 x with h | h
    · exact Int.mul_nonneg h h
    · have := Int.mul_nonneg (show 0 ≤ -x by omega) (show 0 ≤ -x by omega); grind
  refine ⟨⟨nn a, (sqb (A := 100000) (B := 100000) (by omega) h0.2 (by omega) h0.2).2⟩, ⟨nn b, (sqb (A := 100000) (B := 100000) (by omega) h1.2 (by omega) h1.2).2⟩, ⟨nn c, (sqb (A := 100000) (B := 100000) (by omega) h2.2 (by omega) h2.2).2⟩, ⟨nn d, (sqb (A := 100000) (B := 100000) (by omega) h3.2 (by omega) h3.2).2⟩, ?_⟩
  exact sqb (A := 400000) (B := 400000) (by omega) (by omega) (by omega) (by omega)
theorem apGood_l {a b c d : Int} (h0 : bq a) (h1 : bq b) (h2 : bq c) (h3 : bq d) (k : Nat) : spec_apGood.l0 (k + 5) 0 0 [a, b, c, d] 4 0 = some (form4 a b c d) := by
  obtain ⟨s0, s1, s2, s3, s4⟩ := sums h0 h1 h2 h3
  unfold bq at h0 h1 h2 h3
  simp only [spec_apGood.l0, len4, r40, r41, r42, r43, w01, w12, w23, w34, if_pos i04, if_pos i14, if_pos i24, if_pos i34, if_neg i44, if_pos i00, if_pos i01, if_pos i02, if_pos i03]
  rw [Int.zero_add, Int.zero_add, wrap_id (x := a) (by omega) (by omega), wrap_id (x := a * a) (by omega) (by omega), wrap_id (x := a * a) (by omega) (by omega), wrap_id (x := b * b) (by omega) (by omega), wrap_id (x := c * c) (by omega) (by omega), wrap_id (x := d * d) (by omega) (by omega), wrap_id (x := a + b) (by omega) (by omega), wrap_id (x := a + b + c) (by omega) (by omega), wrap_id (x := a + b + c + d) (by omega) (by omega), wrap_id (x := a * a + b * b) (by omega) (by omega), wrap_id (x := a * a + b * b + c * c) (by omega) (by omega), wrap_id (x := a * a + b * b + c * c + d * d) (by omega) (by omega), wrap_id (x := 2 * (a * a + b * b + c * c + d * d)) (by omega) (by omega), wrap_id (x := (a + b + c + d) * (a + b + c + d)) (by omega) (by omega)]
  unfold form4
  by_cases h : a + b + c + d > 0
  · rw [if_pos h, decide_eq_true h, Bool.true_and]
  · rw [if_neg h, decide_eq_false h, Bool.false_and]
theorem apGood_ev (l : List Int) (hl : (l.length : Int) ≤ 9223372036854775806) : Ev (fun k => spec_apGood.f k l) (quadB l) := by
  have j0 : ∀ x, Ev (fun k => spec_apGood.j0 k x true) false := fun x => Ev.from 0 (fun k hk => by
    obtain ⟨k, rfl⟩ : ∃ m, k = m + 1 := ⟨k - 1, by omega⟩
    simp [spec_apGood.j0])
  unfold spec_apGood.f quadB
  by_cases h : l.length = 4
  · have ha := l1All_ev (-100000) 100000 l hl
    simp only [if_pos (show (l.length : Int) = 4 by omega), decide_eq_true h, Bool.true_and]
    refine Ev.bind ha ?_
    cases hb : l.all (inB (-100000) 100000) with
    | false => simp only [Bool.not_false, Bool.false_and]; exact j0 l
    | true =>
      obtain ⟨a, b, c, d, rfl⟩ := four h
      simp only [List.all_cons, List.all_nil, Bool.and_true, Bool.and_eq_true, inB_iff] at hb
      simp only [Bool.not_true, Bool.true_and]
      refine Ev.from 10 (fun k hk => ?_)
      obtain ⟨k, rfl⟩ : ∃ m, k = m + 6 := ⟨k - 6, by omega⟩
      simp only [spec_apGood.j0, Bool.false_eq_true, if_false]
      exact apGood_l hb.1 hb.2.1 hb.2.2.1 hb.2.2.2 k
  · simp only [if_neg (show ¬ (l.length : Int) = 4 by omega), decide_eq_false h, Bool.false_and]
    exact j0 l
theorem sumOf_l {a b c d : Int} (h0 : bq a) (h1 : bq b) (h2 : bq c) (h3 : bq d) (k : Nat) : impl_sumOf.f (k + 5) [a, b, c, d] = some (a + b + c + d) := by
  unfold bq at h0 h1 h2 h3
  unfold impl_sumOf.f
  simp only [impl_sumOf.l0, len4, r40, r41, r42, r43, w01, w12, w23, w34, if_pos i04, if_pos i14, if_pos i24, if_pos i34, if_neg i44, if_pos i00, if_pos i01, if_pos i02, if_pos i03]
  rw [Int.zero_add, wrap_id (x := a) (by omega) (by omega), wrap_id (x := a + b) (by omega) (by omega), wrap_id (x := a + b + c) (by omega) (by omega), wrap_id (x := a + b + c + d) (by omega) (by omega)]
theorem dot_l {a b c d : Int} (h0 : bq a) (h1 : bq b) (h2 : bq c) (h3 : bq d) (k : Nat) : impl_dot.f (k + 5) [a, b, c, d] [a, b, c, d] = some (a * a + b * b + c * c + d * d) := by
  obtain ⟨s0, s1, s2, s3, s4⟩ := sums h0 h1 h2 h3
  unfold impl_dot.f
  simp only [impl_dot.l0, len4, r40, r41, r42, r43, w01, w12, w23, w34, if_pos i04, if_pos i14, if_pos i24, if_pos i34, if_neg i44, if_pos i00, if_pos i01, if_pos i02, if_pos i03]
  rw [Int.zero_add, wrap_id (x := a * a) (by omega) (by omega), wrap_id (x := a * a) (by omega) (by omega), wrap_id (x := b * b) (by omega) (by omega), wrap_id (x := c * c) (by omega) (by omega), wrap_id (x := d * d) (by omega) (by omega), wrap_id (x := a * a + b * b) (by omega) (by omega), wrap_id (x := a * a + b * b + c * c) (by omega) (by omega), wrap_id (x := a * a + b * b + c * c + d * d) (by omega) (by omega)]
theorem isQuad_ev (l : List Int) : Ev (fun k => impl_IsQuad.f k l) (quadB l) := by
  have j0 : ∀ x, Ev (fun k => impl_IsQuad.j0 k x true) false := fun x => Ev.from 0 (fun k hk => by
    obtain ⟨k, rfl⟩ : ∃ m, k = m + 1 := ⟨k - 1, by omega⟩
    simp [impl_IsQuad.j0])
  unfold impl_IsQuad.f impl_allWithin.f quadB
  by_cases h : l.length = 4
  · simp only [if_pos (show (l.length : Int) = 4 by omega), decide_eq_true h, Bool.true_and, Option.bind_some]
    cases hb : l.all (inB (-100000) 100000) with
    | false => simp only [Bool.not_false, Bool.false_and]; exact j0 l
    | true =>
      obtain ⟨a, b, c, d, rfl⟩ := four h
      simp only [List.all_cons, List.all_nil, Bool.and_true, Bool.and_eq_true, inB_iff] at hb
      simp only [Bool.not_true, Bool.true_and]
      refine Ev.from 10 (fun k hk => ?_)
      obtain ⟨k, rfl⟩ : ∃ m, k = m + 6 := ⟨k - 6, by omega⟩
      simp only [impl_IsQuad.j0, Bool.false_eq_true, if_false]
      rw [sumOf_l hb.1 hb.2.1 hb.2.2.1 hb.2.2.2 k, dot_l hb.1 hb.2.1 hb.2.2.1 hb.2.2.2 k]
      obtain ⟨s0, s1, s2, s3, s4⟩ := sums hb.1 hb.2.1 hb.2.2.1 hb.2.2.2
      simp only [Option.bind_some]
      rw [wrap_id (x := 2 * (a * a + b * b + c * c + d * d)) (by omega) (by omega), wrap_id (x := (a + b + c + d) * (a + b + c + d)) (by omega) (by omega)]
      unfold form4
      by_cases h : a + b + c + d > 0
      · rw [if_pos h, decide_eq_true h, Bool.true_and]
      · rw [if_neg h, decide_eq_false h, Bool.false_and]
  · simp only [if_neg (show ¬ (l.length : Int) = 4 by omega), decide_eq_false h, Bool.false_and]
    exact j0 l

end Go.Proofs.Ytmjodkckffmnaaa.P
