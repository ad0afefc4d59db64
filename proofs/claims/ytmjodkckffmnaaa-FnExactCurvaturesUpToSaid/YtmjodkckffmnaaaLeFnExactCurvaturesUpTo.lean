import Derived.Test.YtmjodkckffmnaaaP0
import Derived.Test.YtmjodkckffmnaaaP1
import Derived.Test.YtmjodkckffmnaaaP2
import Derived.Test.YtmjodkckffmnaaaP3
import Derived.Test.YtmjodkckffmnaaaP6
import Derived.Test.YtmjodkckffmnaaaP7
import Derived.Test.YtmjodkckffmnaaaP11
import Derived.Test.YtmjodkckffmnaaaP12
import Derived.Test.YtmjodkckffmnaaaP13
import Derived.Test.YtmjodkckffmnaaaP14
import Derived.Test.YtmjodkckffmnaaaP21
import Derived.Test.YtmjodkckffmnaaaP22
import Derived.Test.YtmjodkckffmnaaaP23
import Derived.Test.YtmjodkckffmnaaaP25
import Derived.Test.YtmjodkckffmnaaaP26
import Derived.Test.YtmjodkckffmnaaaP27
import Derived.Test.YtmjodkckffmnaaaP29
import Derived.Test.YtmjodkckffmnaaaP30
import Derived.Test.YtmjodkckffmnaaaP31
namespace Go.Proofs.Ytmjodkckffmnaaa.P
open Go.RowKit Go.Proofs.YtmjodkckffmnaaaW.PrintWords Go.Proofs.YtmjodkckffmnaaaW.PrintLast Go.Proofs.YtmjodkckffmnaaaW.PrintMore
theorem wrap_id {x : Int} (h0 : -9223372036854775808 ≤ x) (h1 : x ≤ 9223372036854775807) : wrap64 x = x := by unfold wrap64; omega
theorem rdi_at {l : List Int} {i : Nat} (h : i < l.length) : rd l (i : Int) = l[i] := by simp [rd, List.getD_eq_getElem?_getD, List.getElem?_eq_getElem h]
theorem l1In_f (x lo hi : Int) : spec_l1In.f x lo hi = some (inB lo hi x) := by
  unfold spec_l1In.f inB
  by_cases h : x ≥ lo
  · rw [if_pos h]; simp [show lo ≤ x from h]
  · rw [if_neg h]; simp [show ¬ lo ≤ x from h]
theorem inB_iff {lo hi x : Int} : inB lo hi x = true ↔ lo ≤ x ∧ x ≤ hi := by simp [inB]
theorem inB_of {lo hi x : Int} (h : lo ≤ x ∧ x ≤ hi) : inB lo hi x = true := inB_iff.2 h
theorem inB_not {lo hi x : Int} (h : ¬ (lo ≤ x ∧ x ≤ hi)) : inB lo hi x = false := by
  cases e : inB lo hi x with
  | false => rfl
  | true => exact absurd (inB_iff.1 e) h
theorem Ev.all {α : Type} {f : Option α} {r : α} (h : f = some r) : Ev (fun _ => f) r := ⟨0, fun _ _ => h⟩
theorem Ev.from {α : Type} {g : Nat → Option α} {r : α} (K : Nat) (h : ∀ k, K < k → g k = some r) : Ev g r := ⟨K + 1, fun k hk => h k (by omega)⟩
theorem toIntS_l (d : Nat) : ∀ (i k : Nat) (l x : List Int), i + d = l.length → x.length = l.length → x.take i = l.take i → d < k → (l.length : Int) ≤ 9223372036854775806 → laws_toIntS.l0 k l x (i : Int) = some l := by
  induction d with
  | zero =>
    intro i k l x hi hx ht hk hl
    obtain ⟨k, rfl⟩ : ∃ m, k = m + 1 := ⟨k - 1, by omega⟩
    simp only [laws_toIntS.l0]
    rw [if_neg (by omega)]
    rw [List.take_of_length_le (by omega), List.take_of_length_le (by omega)] at ht
    rw [ht]
  | succ d ih =>
    intro i k l x hi hx ht hk hl
    obtain ⟨k, rfl⟩ : ∃ m, k = m + 1 := ⟨k - 1, by omega⟩
    simp only [laws_toIntS.l0]
    rw [if_pos (by omega), if_pos (by omega), if_pos (by omega), wrap_id (by omega) (by omega)]
    have hr : rd l (i : Int) = l[i]'(by omega) := rdi_at (by omega)
    have := ih (i + 1) k l (x.set i (rd l (i : Int))) (by omega) (by simpa using hx) ?_ (by omega) hl
    · simp only [Int.toNat_natCast]
      rw [show ((i : Int) + 1) = ((i + 1 : Nat) : Int) by omega]
      exact this
    · rw [List.take_succ_eq_append_getElem (by simp; omega), List.take_succ_eq_append_getElem (by omega), List.take_set, List.set_eq_of_length_le (by simp; omega), ht]
      simp [hr]
theorem toIntS_f (l : List Int) (hl : l.length ≤ 35184372088832) (k : Nat) (hk : l.length < k) : laws_toIntS.f k l = some l := by
  unfold laws_toIntS.f
  rw [if_pos (by omega), if_pos (by omega)]
  exact toIntS_l l.length 0 k l _ (by omega) (by simp) (by simp) hk (by omega)
theorem toIntS_ev (l : List Int) (hl : l.length ≤ 35184372088832) : Ev (fun k => laws_toIntS.f k l) l := Ev.from l.length (fun k hk => toIntS_f l hl k hk)
theorem eqIntS_ev (l : List Int) (hl : (l.length : Int) ≤ 9223372036854775806) : Ev (fun k => laws_eqIntS.f k l l) true := Ev.from l.length (fun k hk => eqIntS_refl l hl k hk)

theorem l1All_l (lo hi : Int) (l : List Int) (hl : (l.length : Int) ≤ 9223372036854775806) (d : Nat) : ∀ (i k : Nat), i + d = l.length → d < k → spec_l1All.l0 k lo hi l (l.length : Int) (i : Int) = some ((l.drop i).all (inB lo hi)) := by
  induction d with
  | zero =>
    intro i k hi' hk
    obtain ⟨k, rfl⟩ : ∃ m, k = m + 1 := ⟨k - 1, by omega⟩
    simp only [spec_l1All.l0]
    rw [if_neg (by omega), List.drop_of_length_le (by omega)]
    rfl
  | succ d ih =>
    intro i k hi' hk
    obtain ⟨k, rfl⟩ : ∃ m, k = m + 1 := ⟨k - 1, by omega⟩
    have hil : i < l.length := by omega
    simp only [spec_l1All.l0]
    rw [if_pos (by omega), if_pos (by omega), if_pos (by omega), l1In_f, rdi_at hil, wrap_id (by omega) (by omega)]
    simp only [Option.bind_some]
    rw [List.drop_eq_getElem_cons hil, List.all_cons]
    cases inB lo hi l[i] with
    | false => simp
    | true =>
      simp only [if_true, Bool.true_and]
      exact ih (i + 1) k (by omega) (by omega)
theorem l1All_ev (lo hi : Int) (l : List Int) (hl : (l.length : Int) ≤ 9223372036854775806) : Ev (fun k => spec_l1All.f k l lo hi) (l.all (inB lo hi)) :=
  Ev.from l.length (fun k hk => by
    have := l1All_l lo hi l hl l.length 0 k (by omega) hk
    simpa [spec_l1All.f] using this)

theorem markIntS_ev (l : List Int) (hl : (l.length : Int) ≤ 4611686018427387904) : Ev (fun k => laws_markIntS.f k l 1) (1 + (l.length : Int), mkI 1 l.length) := Ev.from l.length (fun k hk => markIntS_f l 1 k hk (by omega) (by omega) (by omega))
theorem heldIntS_ev (n : Nat) (hn : (n : Int) ≤ 4611686018427387904) : Ev (fun k => laws_heldIntS.f k (mkI 1 n) 1) (1 + (n : Int)) := Ev.from n (fun k hk => heldIntS_f 1 n k hk (by omega) (by omega) (by omega))

def bq (x : Int) : Prop := -100000 ≤ x ∧ x ≤ 100000
theorem sqb {a b A B : Int} (h0 : -A ≤ a) (h1 : a ≤ A) (h2 : -B ≤ b) (h3 : b ≤ B) : -(A * B) ≤ a * b ∧ a * b ≤ A * B := by
  have p1 := Int.mul_nonneg (show 0 ≤ A - a by omega) (show 0 ≤ B + b by omega)
  have p2 := Int.mul_nonneg (show 0 ≤ A + a by omega) (show 0 ≤ B - b by omega)
  have p3 := Int.mul_nonneg (show 0 ≤ A - a by omega) (show 0 ≤ B - b by omega)
  have p4 := Int.mul_nonneg (show 0 ≤ A + a by omega) (show 0 ≤ B + b by omega)
  constructor <;> grind
def form4 (a b c d : Int) : Bool := decide (a + b + c + d > 0) && (2 * (a * a + b * b + c * c + d * d) == (a + b + c + d) * (a + b + c + d))
def quadB (l : List Int) : Bool := (decide (l.length = 4) && l.all (inB (-100000) 100000)) && match l with
  | [a, b, c, d] => form4 a b c d
  | _ => false
theorem four {l : List Int} (h : l.length = 4) : ∃ a b c d, l = [a, b, c, d] := by
  match l, h with
  | [a, b, c, d], _ => exact ⟨a, b, c, d, rfl⟩
theorem quadB_iff {l : List Int} : quadB l = true ↔ ∃ a b c d, l = [a, b, c, d] ∧ bq a ∧ bq b ∧ bq c ∧ bq d ∧ a + b + c + d > 0 ∧ 2 * (a * a + b * b + c * c + d * d) = (a + b + c + d) * (a + b + c + d) := by
  constructor
  · intro h
    simp only [quadB, Bool.and_eq_true, decide_eq_true_eq] at h
    obtain ⟨a, b, c, d, rfl⟩ := four h.1.1
    simp only [List.all_cons, List.all_nil, Bool.and_true, Bool.and_eq_true, inB_iff, form4, decide_eq_true_eq, beq_iff_eq] at h
    exact ⟨a, b, c, d, rfl, h.1.2.1, h.1.2.2.1, h.1.2.2.2.1, h.1.2.2.2.2, h.2.1, h.2.2⟩
  · rintro ⟨a, b, c, d, rfl, h0, h1, h2, h3, h4, h5⟩
    simp only [quadB, Bool.and_eq_true, decide_eq_true_eq, List.all_cons, List.all_nil, Bool.and_true, inB_iff, form4, beq_iff_eq, List.length_cons, List.length_nil]
    exact ⟨⟨trivial, h0, h1, h2, h3⟩, h4, h5⟩
theorem r40 (a b c d : Int) : rd [a, b, c, d] 0 = a := Eq.trans rfl rfl
theorem r41 (a b c d : Int) : rd [a, b, c, d] 1 = b := Eq.trans rfl rfl
theorem r42 (a b c d : Int) : rd [a, b, c, d] 2 = c := Eq.trans rfl rfl
theorem r43 (a b c d : Int) : rd [a, b, c, d] 3 = d := Eq.trans rfl rfl
theorem w01 : wrap64 (0 + 1) = 1 := wrap_id (x := 0 + 1) (by decide) (by decide)
theorem w12 : wrap64 (1 + 1) = 2 := wrap_id (x := 1 + 1) (by decide) (by decide)
theorem w23 : wrap64 (2 + 1) = 3 := wrap_id (x := 2 + 1) (by decide) (by decide)
theorem w34 : wrap64 (3 + 1) = 4 := wrap_id (x := 3 + 1) (by decide) (by decide)
theorem i04 : (0 : Int) < 4 := by decide
theorem i14 : (1 : Int) < 4 := by decide
theorem i24 : (2 : Int) < 4 := by decide
theorem i34 : (3 : Int) < 4 := by decide
theorem i44 : ¬ (4 : Int) < 4 := by decide
theorem i00 : (0 : Int) ≤ 0 := by decide
theorem i01 : (0 : Int) ≤ 1 := by decide
theorem i02 : (0 : Int) ≤ 2 := by decide
theorem i03 : (0 : Int) ≤ 3 := by decide
theorem len4 (a b c d : Int) : (([a, b, c, d] : List Int).length : Int) = 4 := rfl
theorem sums {a b c d : Int} (h0 : bq a) (h1 : bq b) (h2 : bq c) (h3 : bq d) :
    (0 ≤ a * a ∧ a * a ≤ 10000000000) ∧ (0 ≤ b * b ∧ b * b ≤ 10000000000) ∧ (0 ≤ c * c ∧ c * c ≤ 10000000000) ∧ (0 ≤ d * d ∧ d * d ≤ 10000000000) ∧ -160000000000 ≤ (a + b + c + d) * (a + b + c + d) ∧ (a + b + c + d) * (a + b + c + d) ≤ 160000000000 := by
  unfold bq at *
  have nn : ∀ x : Int, 0 ≤ x * x := fun x => by
    rcases Int.le_total 0 x with h | h
    · exact Int.mul_nonneg h h
    · have := Int.mul_nonneg (show 0 ≤ -x by omega) (show 0 ≤ -x by omega); grind
  refine ⟨⟨nn a, (sqb (A := 100000) (B := 100000) (by omega) h0.2 (by omega) h0.2).2⟩, ⟨nn b, (sqb (A := 100000) (B := 100000) (by omega) h1.2 (by omega) h1.2).2⟩, ⟨nn c, (sqb (A := 100000) (B := 100000) (by omega) h2.2 (by omega) h2.2).2⟩, ⟨nn d, (sqb (A := 100000) (B := 100000) (by omega) h3.2 (by omega) h3.2).2⟩, ?_⟩
  exact sqb (A := 400000) (B := 400000) (by omega) (by omega) (by omega) (by omega)
theorem apGood_l {a b c d : Int} (h0 : bq a) (h1 : bq b) (h2 : bq c) (h3 : bq d) (k : Nat) : spec_apGood.l0 (k + 5) 0 0 [a, b, c, d] 4 0 = some (form4 a b c d) := by
  obtain ⟨s0, s1, s2, s3, s4⟩ := sums h0 h1 h2 h3
  unfold bq at h0 h1 h2 h3
  simp only [spec_apGood.l0, len4, r40, r41, r42, r43, w01, w12, w23, w34, if_pos i04, if_pos i14, if_pos i24, if_pos i34, if_neg i44, if_pos i00, if_pos i01, if_pos i02, if_pos i03]
  rw [Int.zero_add, Int.zero_add, wrap_id (x := a) (by omega) (by omega), wrap_id (x := a * a) (by omega) (by omega), wrap_id (x := a * a) (by omega) (by omega), wrap_id (x := b * b) (by omega) (by omega), wrap_id (x := c * c) (by omega) (by omega), wrap_id (x := d * d) (by omega) (by omega), wrap_id (x := a + b) (by omega) (by omega), wrap_id (x := a + b + c) (by omega) (by omega), wrap_id (x := a + b + c + d) (by omega) (by omega), wrap_id (x := a * a + b * b) (by omega) (by omega), wrap_id (x := a * a + b * b + c * c) (by omega) (by omega), wrap_id (x := a * a + b * b + c * c + d * d) (by omega) (by omega), wrap_id (x := 2 * (a * a + b * b + c * c + d * d)) (by omega) (by omega), wrap_id (x := (a + b + c + d) * (a + b + c + d)) (by omega) (by omega)]
  unfold form4
  by_cases h : a + b + c + d > 0
  · rw [if_pos h, decide_eq_true h, Bool.true_and]
  · rw [if_neg h, decide_eq_false h, Bool.false_and]
theorem apGood_ev (l : List Int) (hl : (l.length : Int) ≤ 9223372036854775806) : Ev (fun k => spec_apGood.f k l) (quadB l) := by
  have j0 : ∀ x, Ev (fun k => spec_apGood.j0 k x true) false := fun x => Ev.from 0 (fun k hk => by
    obtain ⟨k, rfl⟩ : ∃ m, k = m + 1 := ⟨k - 1, by omega⟩
    simp [spec_apGood.j0])
  unfold spec_apGood.f quadB
  by_cases h : l.length = 4
  · have ha := l1All_ev (-100000) 100000 l hl
    simp only [if_pos (show (l.length : Int) = 4 by omega), decide_eq_true h, Bool.true_and]
    refine Ev.bind ha ?_
    cases hb : l.all (inB (-100000) 100000) with
    | false => simp only [Bool.not_false, Bool.false_and]; exact j0 l
    | true =>
      obtain ⟨a, b, c, d, rfl⟩ := four h
      simp only [List.all_cons, List.all_nil, Bool.and_true, Bool.and_eq_true, inB_iff] at hb
      simp only [Bool.not_true, Bool.true_and]
      refine Ev.from 10 (fun k hk => ?_)
      obtain ⟨k, rfl⟩ : ∃ m, k = m + 6 := ⟨k - 6, by omega⟩
      simp only [spec_apGood.j0, Bool.false_eq_true, if_false]
      exact apGood_l hb.1 hb.2.1 hb.2.2.1 hb.2.2.2 k
  · simp only [if_neg (show ¬ (l.length : Int) = 4 by omega), decide_eq_false h, Bool.false_and]
    exact j0 l
theorem sumOf_l {a b c d : Int} (h0 : bq a) (h1 : bq b) (h2 : bq c) (h3 : bq d) (k : Nat) : impl_sumOf.f (k + 5) [a, b, c, d] = some (a + b + c + d) := by
  unfold bq at h0 h1 h2 h3
  unfold impl_sumOf.f
  simp only [impl_sumOf.l0, len4, r40, r41, r42, r43, w01, w12, w23, w34, if_pos i04, if_pos i14, if_pos i24, if_pos i34, if_neg i44, if_pos i00, if_pos i01, if_pos i02, if_pos i03]
  rw [Int.zero_add, wrap_id (x := a) (by omega) (by omega), wrap_id (x := a + b) (by omega) (by omega), wrap_id (x := a + b + c) (by omega) (by omega), wrap_id (x := a + b + c + d) (by omega) (by omega)]
theorem dot_l {a b c d : Int} (h0 : bq a) (h1 : bq b) (h2 : bq c) (h3 : bq d) (k : Nat) : impl_dot.f (k + 5) [a, b, c, d] [a, b, c, d] = some (a * a + b * b + c * c + d * d) := by
  obtain ⟨s0, s1, s2, s3, s4⟩ := sums h0 h1 h2 h3
  unfold impl_dot.f
  simp only [impl_dot.l0, len4, r40, r41, r42, r43, w01, w12, w23, w34, if_pos i04, if_pos i14, if_pos i24, if_pos i34, if_neg i44, if_pos i00, if_pos i01, if_pos i02, if_pos i03]
  rw [Int.zero_add, wrap_id (x := a * a) (by omega) (by omega), wrap_id (x := a * a) (by omega) (by omega), wrap_id (x := b * b) (by omega) (by omega), wrap_id (x := c * c) (by omega) (by omega), wrap_id (x := d * d) (by omega) (by omega), wrap_id (x := a * a + b * b) (by omega) (by omega), wrap_id (x := a * a + b * b + c * c) (by omega) (by omega), wrap_id (x := a * a + b * b + c * c + d * d) (by omega) (by omega)]
theorem isQuad_ev (l : List Int) : Ev (fun k => impl_IsQuad.f k l) (quadB l) := by
  have j0 : ∀ x, Ev (fun k => impl_IsQuad.j0 k x true) false := fun x => Ev.from 0 (fun k hk => by
    obtain ⟨k, rfl⟩ : ∃ m, k = m + 1 := ⟨k - 1, by omega⟩
    simp [impl_IsQuad.j0])
  unfold impl_IsQuad.f impl_allWithin.f quadB
  by_cases h : l.length = 4
  · simp only [if_pos (show (l.length : Int) = 4 by omega), decide_eq_true h, Bool.true_and, Option.bind_some]
    cases hb : l.all (inB (-100000) 100000) with
    | false => simp only [Bool.not_false, Bool.false_and]; exact j0 l
    | true =>
      obtain ⟨a, b, c, d, rfl⟩ := four h
      simp only [List.all_cons, List.all_nil, Bool.and_true, Bool.and_eq_true, inB_iff] at hb
      simp only [Bool.not_true, Bool.true_and]
      refine Ev.from 10 (fun k hk => ?_)
      obtain ⟨k, rfl⟩ : ∃ m, k = m + 6 := ⟨k - 6, by omega⟩
      simp only [impl_IsQuad.j0, Bool.false_eq_true, if_false]
      rw [sumOf_l hb.1 hb.2.1 hb.2.2.1 hb.2.2.2 k, dot_l hb.1 hb.2.1 hb.2.2.1 hb.2.2.2 k]
      obtain ⟨s0, s1, s2, s3, s4⟩ := sums hb.1 hb.2.1 hb.2.2.1 hb.2.2.2
      simp only [Option.bind_some]
      rw [wrap_id (x := 2 * (a * a + b * b + c * c + d * d)) (by omega) (by omega), wrap_id (x := (a + b + c + d) * (a + b + c + d)) (by omega) (by omega)]
      unfold form4
      by_cases h : a + b + c + d > 0
      · rw [if_pos h, decide_eq_true h, Bool.true_and]
      · rw [if_neg h, decide_eq_false h, Bool.false_and]
  · simp only [if_neg (show ¬ (l.length : Int) = 4 by omega), decide_eq_false h, Bool.false_and]
    exact j0 l

theorem sq_nn (x : Int) : 0 ≤ x * x := by
  rcases Int.le_total 0 x with h | h
  · exact Int.mul_nonneg h h
  · have := Int.mul_nonneg (show 0 ≤ -x by omega) (show 0 ≤ -x by omega); grind
theorem swap_pos {x y z : Int} (h1 : x + y > 0) (h2 : 2 * (x * x + z) = (x + y) * (x + y)) (h3 : y * y ≤ 3 * z) : 3 * y - x > 0 := by
  rcases Int.lt_or_le 0 (3 * y - x) with h | h
  · exact h
  · obtain ⟨t, ht⟩ : ∃ t, t = x - 3 * y := ⟨_, rfl⟩
    have hx : x = 3 * y + t := by omega
    have ht0 : 0 ≤ t := by omega
    subst hx
    have key : 8 * (y * y) + 12 * (y * t) + 3 * (t * t) ≤ 0 := by grind
    have n1 := sq_nn y
    have n2 := sq_nn t
    rcases Int.lt_or_le y 0 with hy | hy
    · have n3 := Int.mul_nonneg ht0 (show 0 ≤ 4 * y + t by omega)
      have n4 : 0 < y * y := by
        have := Int.mul_pos (show 0 < -y by omega) (show 0 < -y by omega); grind
      grind
    · have n3 := Int.mul_nonneg hy ht0
      have n5 : y * y = 0 := by omega
      have n6 : t * t = 0 := by omega
      have n7 : y = 0 := by
        rcases Int.mul_eq_zero.1 n5 with h | h <;> exact h
      have n8 : t = 0 := by
        rcases Int.mul_eq_zero.1 n6 with h | h <;> exact h
      omega
theorem three_sq (b c d : Int) : (b + c + d) * (b + c + d) ≤ 3 * (b * b + c * c + d * d) := by
  have h1 := sq_nn (b - c)
  have h2 := sq_nn (b - d)
  have h3 := sq_nn (c - d)
  grind
theorem swap_form {x b c d : Int} (h1 : x + b + c + d > 0) (h2 : 2 * (x * x + b * b + c * c + d * d) = (x + b + c + d) * (x + b + c + d)) :
    (2 * (b + c + d) - x) + b + c + d > 0 ∧ 2 * ((2 * (b + c + d) - x) * (2 * (b + c + d) - x) + b * b + c * c + d * d) = ((2 * (b + c + d) - x) + b + c + d) * ((2 * (b + c + d) - x) + b + c + d) := by
  constructor
  · have := swap_pos (x := x) (y := b + c + d) (z := b * b + c * c + d * d) (by omega) (by grind) (three_sq b c d)
    omega
  · grind
/-- the quad behind a swap -/
def swl (l : List Int) (i : Nat) : List Int := l.set i (2 * (l.sum - l.getD i 0) - l.getD i 0)
theorem swl0 (a b c d : Int) : swl [a, b, c, d] 0 = [2 * (b + c + d) - a, b, c, d] := by
  simp [swl]; omega
theorem swl1 (a b c d : Int) : swl [a, b, c, d] 1 = [a, 2 * (a + c + d) - b, c, d] := by
  simp [swl]; omega
theorem swl2 (a b c d : Int) : swl [a, b, c, d] 2 = [a, b, 2 * (a + b + d) - c, d] := by
  simp [swl]; omega
theorem swl3 (a b c d : Int) : swl [a, b, c, d] 3 = [a, b, c, 2 * (a + b + c) - d] := by
  simp [swl]; omega
theorem quad_swl {l : List Int} (hq : quadB l = true) {i : Nat} (hi : i < 4) : quadB (swl l i) = inB (-100000) 100000 ((swl l i).getD i 0) := by
  obtain ⟨a, b, c, d, rfl, h0, h1, h2, h3, h4, h5⟩ := quadB_iff.1 hq
  rw [Bool.eq_iff_iff, quadB_iff, inB_iff]
  match i, hi with
  | 0, _ =>
    rw [swl0]
    constructor
    · rintro ⟨a', b', c', d', e, q, _⟩
      simp only [List.cons.injEq] at e
      obtain ⟨rfl, _⟩ := e
      exact q
    · intro q
      have := swap_form (x := a) (b := b) (c := c) (d := d) (by omega) (by grind)
      exact ⟨_, _, _, _, rfl, q, h1, h2, h3, by omega, by grind⟩
  | 1, _ =>
    rw [swl1]
    constructor
    · rintro ⟨a', b', c', d', e, _, q, _⟩
      simp only [List.cons.injEq] at e
      obtain ⟨_, rfl, _⟩ := e
      exact q
    · intro q
      have := swap_form (x := b) (b := a) (c := c) (d := d) (by omega) (by grind)
      exact ⟨_, _, _, _, rfl, h0, q, h2, h3, by omega, by grind⟩
  | 2, _ =>
    rw [swl2]
    constructor
    · rintro ⟨a', b', c', d', e, _, _, q, _⟩
      simp only [List.cons.injEq] at e
      obtain ⟨_, _, rfl, _⟩ := e
      exact q
    · intro q
      have := swap_form (x := c) (b := a) (c := b) (d := d) (by omega) (by grind)
      exact ⟨_, _, _, _, rfl, h0, h1, q, h3, by omega, by grind⟩
  | 3, _ =>
    rw [swl3]
    constructor
    · rintro ⟨a', b', c', d', e, _, _, _, q, _⟩
      simp only [List.cons.injEq] at e
      obtain ⟨_, _, _, rfl, _⟩ := e
      exact q
    · intro q
      have := swap_form (x := d) (b := a) (c := b) (d := c) (by omega) (by grind)
      exact ⟨_, _, _, _, rfl, h0, h1, h2, q, by omega, by grind⟩
  | (i + 4), h => omega
theorem swl_length (l : List Int) (i : Nat) : (swl l i).length = l.length := by simp [swl]
theorem rd_nat (l : List Int) (i : Nat) : rd l (i : Int) = l.getD i 0 := by simp [rd]
theorem bq_get {a b c d : Int} (h0 : bq a) (h1 : bq b) (h2 : bq c) (h3 : bq d) {i : Nat} (hi : i < 4) : bq (([a, b, c, d] : List Int).getD i 0) := by
  match i, hi with
  | 0, _ => exact h0
  | 1, _ => exact h1
  | 2, _ => exact h2
  | 3, _ => exact h3
theorem apSwap_f {l : List Int} (hq : quadB l = true) {i : Nat} (hi : i < 4) : spec_apSwap.f l (i : Int) = some (swl l i) := by
  obtain ⟨a, b, c, d, rfl, h0, h1, h2, h3, h4, h5⟩ := quadB_iff.1 hq
  have hg := bq_get h0 h1 h2 h3 hi
  unfold bq at h0 h1 h2 h3 hg
  unfold spec_apSwap.f spec_l1Own.f spec_apSum.f
  simp only [Option.bind_some, List.length_nil, List.nil_append, len4, r40, r41, r42, r43, if_pos i04, if_pos i14, if_pos i24, if_pos i34]
  rw [if_pos (by simp)]
  simp only [Option.bind_some, len4]
  rw [if_pos (by omega), if_pos (by omega), rd_nat]
  have hs : ([a, b, c, d] : List Int).sum = a + b + c + d := by simp; omega
  unfold swl
  rw [hs]
  generalize ([a, b, c, d] : List Int).getD i 0 = x at *
  rw [wrap_id (x := a + b) (by omega) (by omega), wrap_id (x := a + b + c) (by omega) (by omega), wrap_id (x := a + b + c + d) (by omega) (by omega), wrap_id (x := a + b + c + d - x) (by omega) (by omega), wrap_id (x := 2 * (a + b + c + d - x)) (by omega) (by omega), wrap_id (x := 2 * (a + b + c + d - x) - x) (by omega) (by omega)]
  simp only [if_pos (show (i : Int) < 4 by omega), Int.toNat_natCast]
theorem swapped_ev {l : List Int} (hq : quadB l = true) {i : Nat} (hi : i < 4) : Ev (fun k => impl_swapped.f k l (i : Int)) (swl l i) := by
  obtain ⟨a, b, c, d, rfl, h0, h1, h2, h3, h4, h5⟩ := quadB_iff.1 hq
  have hg := bq_get h0 h1 h2 h3 hi
  have hsum : Ev (fun k => impl_sumOf.f k [a, b, c, d]) (a + b + c + d) := Ev.from 5 (fun k hk => by
    obtain ⟨k, rfl⟩ : ∃ m, k = m + 5 := ⟨k - 5, by omega⟩
    exact sumOf_l h0 h1 h2 h3 k)
  unfold bq at h0 h1 h2 h3 hg
  unfold impl_swapped.f slices_Clone_int_int_80.f
  simp only [if_pos (show ([a, b, c, d] : List Int).length < 17592186044416 by simp), Option.bind_some, len4]
  refine Ev.bind hsum ?_
  rw [if_pos (by omega), if_pos (by omega), rd_nat]
  have hs : ([a, b, c, d] : List Int).sum = a + b + c + d := by simp; omega
  unfold swl
  rw [hs]
  generalize ([a, b, c, d] : List Int).getD i 0 = x at *
  rw [wrap_id (x := a + b + c + d - x) (by omega) (by omega), wrap_id (x := 2 * (a + b + c + d - x)) (by omega) (by omega), wrap_id (x := 2 * (a + b + c + d - x) - x) (by omega) (by omega)]
  simp only [if_pos (show (i : Int) < 4 by omega), Int.toNat_natCast]
  exact Ev.now _
def argm (l : List Int) : Nat → Nat → Nat → Nat
  | b, _, 0 => b
  | b, i, d + 1 => if l.getD i 0 > l.getD b 0 then argm l i (i + 1) d else argm l b (i + 1) d
theorem argm_spec (l : List Int) (d : Nat) : ∀ b i, (b < i ∨ b = 0 ∧ i = 0) → (∀ j, j < i → l.getD j 0 ≤ l.getD b 0) → (∀ j, j < b → l.getD j 0 < l.getD b 0) →
    (∀ j, j < i + d → l.getD j 0 ≤ l.getD (argm l b i d) 0) ∧ (∀ j, j < argm l b i d → l.getD j 0 < l.getD (argm l b i d) 0) ∧ (argm l b i d < i + d ∨ argm l b i d = b) := by
  induction d with
  | zero =>
    intro b i _ h1 h2
    exact ⟨fun j hj => h1 j (by omega), h2, .inr rfl⟩
  | succ d ih =>
    intro b i hbi h1 h2
    simp only [argm]
    split
    · rename_i hg
      have h1' : ∀ j, j < i + 1 → l.getD j 0 ≤ l.getD i 0 := by
        intro j hj
        rcases Nat.lt_or_ge j i with h | h
        · have := h1 j h; omega
        · have : j = i := by omega
          subst this
          exact Int.le_refl _
      have h2' : ∀ j, j < i → l.getD j 0 < l.getD i 0 := fun j hj => by have := h1 j hj; omega
      obtain ⟨r1, r2, r3⟩ := ih i (i + 1) (.inl (by omega)) h1' h2'
      exact ⟨fun j hj => r1 j (by omega), r2, .inl (by omega)⟩
    · rename_i hg
      have h1' : ∀ j, j < i + 1 → l.getD j 0 ≤ l.getD b 0 := by
        intro j hj
        rcases Nat.lt_or_ge j i with h | h
        · exact h1 j h
        · have : j = i := by omega
          subst this
          omega
      obtain ⟨r1, r2, r3⟩ := ih b (i + 1) (.inl (by omega)) h1' h2
      exact ⟨fun j hj => r1 j (by omega), r2, by omega⟩
theorem argm4 (l : List Int) : (∀ j, j < 4 → l.getD j 0 ≤ l.getD (argm l 0 0 4) 0) ∧ (∀ j, j < argm l 0 0 4 → l.getD j 0 < l.getD (argm l 0 0 4) 0) ∧ argm l 0 0 4 < 4 := by
  obtain ⟨h1, h2, h3⟩ := argm_spec l 4 0 0 (.inr ⟨rfl, rfl⟩) (fun j hj => by omega) (fun j hj => by omega)
  exact ⟨fun j hj => h1 j (by omega), h2, by omega⟩
/-- the number behind a swap -/
def sv (l : List Int) (i : Nat) : Int := 2 * (l.sum - l.getD i 0) - l.getD i 0
theorem swl_get {l : List Int} {i : Nat} (h : i < l.length) : (swl l i).getD i 0 = sv l i := by
  unfold swl sv
  simp [List.getD_eq_getElem?_getD, List.getElem?_set_self h]
theorem quad_len {l : List Int} (hq : quadB l = true) : l.length = 4 := by
  obtain ⟨a, b, c, d, rfl, _⟩ := quadB_iff.1 hq
  rfl
def dres (l : List Int) (m : Nat) : Int := if l.getD m 0 ≤ sv l m then -1 else (m : Int)
/-- where a quad leads down -/
def dwn (l : List Int) : Int := dres l (argm l 0 0 4)
theorem apDown_l {l : List Int} (hq : quadB l = true) (d : Nat) : ∀ (i b : Nat), i + d = 4 → b < 4 → argm l b i d < 4 →
    Ev (fun k => spec_apDown.l0 k l (b : Int) l 4 (i : Int)) (dres l (argm l b i d)) := by
  have h4 := quad_len hq
  induction d with
  | zero =>
    intro i b hi hb _
    refine Ev.step (f := fun _ => some (dres l b)) (fun k => ?_) (Ev.now _)
    simp only [spec_apDown.l0]
    rw [if_neg (by omega), apSwap_f hq hb]
    simp only [Option.bind_some, swl_length, h4]
    rw [if_pos (by omega), if_pos (by omega), if_pos (by omega), rd_nat, rd_nat, swl_get (by omega)]
    unfold dres
    by_cases h : l.getD b 0 ≤ sv l b
    · rw [if_pos h, if_pos h]
    · rw [if_neg h, if_neg h]
  | succ d ih =>
    intro i b hi hb hm
    simp only [argm] at hm ⊢
    by_cases hg : l.getD i 0 > l.getD b 0
    · rw [if_pos hg] at hm ⊢
      refine Ev.step (f := fun k => spec_apDown.l0 k l (i : Int) l 4 ((i + 1 : Nat) : Int)) (fun k => ?_) (ih (i + 1) i (by omega) (by omega) hm)
      simp only [spec_apDown.l0, h4]
      rw [if_pos (by omega), if_pos (by omega), if_pos (by omega), if_pos (by omega), if_pos (by omega), rd_nat, rd_nat, if_pos hg, wrap_id (by omega) (by omega), show ((i : Int) + 1) = ((i + 1 : Nat) : Int) by omega]
    · rw [if_neg hg] at hm ⊢
      refine Ev.step (f := fun k => spec_apDown.l0 k l (b : Int) l 4 ((i + 1 : Nat) : Int)) (fun k => ?_) (ih (i + 1) b (by omega) hb hm)
      simp only [spec_apDown.l0, h4]
      rw [if_pos (by omega), if_pos (by omega), if_pos (by omega), if_pos (by omega), if_pos (by omega), rd_nat, rd_nat, if_neg hg, wrap_id (by omega) (by omega), show ((i : Int) + 1) = ((i + 1 : Nat) : Int) by omega]
theorem apDown_ev {l : List Int} (hq : quadB l = true) : Ev (fun k => spec_apDown.f k l) (dwn l) := by
  have h := apDown_l hq 4 0 0 (by omega) (by omega) (argm4 l).2.2
  unfold spec_apDown.f
  rw [show (l.length : Int) = 4 by have := quad_len hq; omega]
  exact h
def rootB (l : List Int) : Nat → Nat → Bool
  | _, 0 => true
  | i, d + 1 => decide (l.getD i 0 ≤ sv l i) && rootB l (i + 1) d
theorem isRoot_l {l : List Int} (hq : quadB l = true) (d : Nat) : ∀ (i : Nat), i + d = 4 → Ev (fun k => impl_isRoot.l0 k l l 4 (i : Int)) (rootB l i d) := by
  have h4 := quad_len hq
  induction d with
  | zero =>
    intro i hi
    refine Ev.step (f := fun _ => some true) (fun k => ?_) (Ev.now _)
    simp only [impl_isRoot.l0]
    rw [if_neg (by omega)]
  | succ d ih =>
    intro i hi
    have hs := swapped_ev hq (show i < 4 by omega)
    refine Ev.step (f := fun k => (impl_swapped.f k l (i : Int)).bind fun t => (if (i : Int) < (t.length : Int) then (if (rd t (i : Int)) < (rd l (i : Int)) then (some false) else (impl_isRoot.l0 k l l 4 ((i + 1 : Nat) : Int))) else (none))) (fun k => ?_) ?_
    · simp only [impl_isRoot.l0, h4]
      rw [if_pos (by omega), if_pos (by omega), if_pos (by omega), wrap_id (by omega) (by omega), show ((i : Int) + 1) = ((i + 1 : Nat) : Int) by omega]
    · refine Ev.bind hs ?_
      simp only [swl_length, h4, rd_nat, if_pos (show (i : Int) < ((4 : Nat) : Int) by omega)]
      rw [swl_get (by omega)]
      simp only [rootB]
      by_cases h : l.getD i 0 ≤ sv l i
      · simp only [if_neg (show ¬ (sv l i < l.getD i 0) by omega), decide_eq_true h, Bool.true_and]
        exact ih (i + 1) (by omega)
      · simp only [if_pos (show sv l i < l.getD i 0 by omega), decide_eq_false h, Bool.false_and]
        exact Ev.now _
theorem isRoot_ev {l : List Int} (hq : quadB l = true) : Ev (fun k => impl_isRoot.f k l) (rootB l 0 4) := by
  unfold impl_isRoot.f
  rw [show (l.length : Int) = 4 by have := quad_len hq; omega]
  exact isRoot_l hq 4 0 (by omega)
theorem root_iff (l : List Int) : rootB l 0 4 = decide (dwn l < 0) := by
  obtain ⟨h1, h2, h3⟩ := argm4 l
  rw [Bool.eq_iff_iff, decide_eq_true_iff]
  simp only [rootB, Nat.zero_add, Nat.reduceAdd, Bool.and_true, Bool.and_eq_true, decide_eq_true_iff, dwn, dres]
  have a0 := h1 0 (by omega)
  have a1 := h1 1 (by omega)
  have a2 := h1 2 (by omega)
  have a3 := h1 3 (by omega)
  generalize argm l 0 0 4 = m at *
  unfold sv
  generalize l.sum = S at *
  constructor
  · rintro ⟨q0, q1, q2, q3⟩
    rw [if_pos]
    · decide
    · match m, h3 with
      | 0, _ => exact q0
      | 1, _ => exact q1
      | 2, _ => exact q2
      | 3, _ => exact q3
  · intro h
    by_cases hm : l.getD m 0 ≤ 2 * (S - l.getD m 0) - l.getD m 0
    · exact ⟨by omega, by omega, by omega, by omega⟩
    · rw [if_neg hm] at h
      omega
theorem index_l (l : List Int) (v : Int) (m : Nat) (hm : m < l.length) (hl : (l.length : Int) ≤ 9223372036854775806) (hv : l.getD m 0 = v) (hf : ∀ j, j < m → l.getD j 0 < v) (d : Nat) : ∀ i, i + d = m → Ev (fun k => slices_Index_int_int.l0 k l v (l.length : Int) (i : Int)) (m : Int) := by
  induction d with
  | zero =>
    intro i hi
    obtain rfl : i = m := by omega
    refine Ev.step (f := fun _ => some (i : Int)) (fun k => ?_) (Ev.now _)
    simp only [slices_Index_int_int.l0]
    rw [if_pos (by omega), if_pos (by omega), if_pos (by omega), rd_nat, if_pos hv.symm]
  | succ d ih =>
    intro i hi
    have := hf i (by omega)
    refine Ev.step (f := fun k => slices_Index_int_int.l0 k l v (l.length : Int) ((i + 1 : Nat) : Int)) (fun k => ?_) (ih (i + 1) (by omega))
    simp only [slices_Index_int_int.l0]
    rw [if_pos (by omega), if_pos (by omega), if_pos (by omega), rd_nat, if_neg (by omega), wrap_id (by omega) (by omega), show ((i : Int) + 1) = ((i + 1 : Nat) : Int) by omega]
theorem max4 (a b c d : Int) : ([b, c, d].foldl max a) = [a, b, c, d].getD (argm [a, b, c, d] 0 0 4) 0 := by
  obtain ⟨h1, h2, h3⟩ := argm4 [a, b, c, d]
  have a0 := h1 0 (by omega)
  have a1 := h1 1 (by omega)
  have a2 := h1 2 (by omega)
  have a3 := h1 3 (by omega)
  generalize argm [a, b, c, d] 0 0 4 = m at *
  have e0 : [a, b, c, d].getD 0 0 = a := rfl
  have e1 : [a, b, c, d].getD 1 0 = b := rfl
  have e2 : [a, b, c, d].getD 2 0 = c := rfl
  have e3 : [a, b, c, d].getD 3 0 = d := rfl
  rw [e0] at a0
  rw [e1] at a1
  rw [e2] at a2
  rw [e3] at a3
  have hm : [a, b, c, d].getD m 0 = a ∨ [a, b, c, d].getD m 0 = b ∨ [a, b, c, d].getD m 0 = c ∨ [a, b, c, d].getD m 0 = d := by
    match m, h3 with
    | 0, _ => exact .inl rfl
    | 1, _ => exact .inr (.inl rfl)
    | 2, _ => exact .inr (.inr (.inl rfl))
    | 3, _ => exact .inr (.inr (.inr rfl))
  simp only [List.foldl_cons, List.foldl_nil]
  generalize [a, b, c, d].getD m 0 = v at *
  simp only [Int.max_def]
  repeat' split
  all_goals omega
theorem greatest_ev {l : List Int} (hq : quadB l = true) : Ev (fun k => impl_greatest.f k l) ((argm l 0 0 4 : Nat) : Int) := by
  obtain ⟨h1, h2, h3⟩ := argm4 l
  have h4 := quad_len hq
  obtain ⟨a, b, c, d, rfl, _⟩ := quadB_iff.1 hq
  unfold impl_greatest.f slices_Max_int_int.f
  simp only [Option.bind_some]
  rw [max4]
  refine Ev.bind ?_ (Ev.now _)
  unfold slices_Index_int_int.f
  exact index_l [a, b, c, d] _ _ (by simpa using h3) (by simp) rfl h2 (argm [a, b, c, d] 0 0 4) 0 (by omega)

theorem low_core {a b c d : Int} (ha : bq a) (hb : bq b) (hc : bq c) (hs : a + b + c + d > 0) (hf : 2 * (a * a + b * b + c * c + d * d) = (a + b + c + d) * (a + b + c + d)) : -100000 ≤ d := by
  unfold bq at ha hb hc
  refine Int.not_lt.1 (fun hd => ?_)
  have e : (c - a - b - d) * (c - a - b - d) = 4 * (a * b + a * d + b * d) := by grind
  have e2 : (-d - a) * (-d - b) = a * b + a * d + b * d + d * d := by grind
  have p := sq_nn (c - a - b - d)
  have q : (-d - a) * (-d - b) ≥ d * d := by omega
  have hx : 0 < -d - a := by omega
  have hy : 0 < -d - b := by omega
  have hz : 0 < -d - c := by omega
  have hsum : (-d - a) + (-d - b) < 2 * (-d) := by omega
  have h4 := sq_nn ((-d - a) - (-d - b))
  have e3 : ((-d - a) + (-d - b)) * ((-d - a) + (-d - b)) = ((-d - a) - (-d - b)) * ((-d - a) - (-d - b)) + 4 * ((-d - a) * (-d - b)) := by grind
  have h5 : ((-d - a) + (-d - b)) * ((-d - a) + (-d - b)) ≥ 4 * (d * d) := by omega
  generalize hX : (-d - a) + (-d - b) = X at *
  have h6 : 0 < X := by omega
  have h7 : X * X < (2 * -d) * (2 * -d) := by
    have m1 := Int.mul_lt_mul_of_pos_left hsum h6
    have m2 := Int.mul_lt_mul_of_pos_right hsum (show 0 < 2 * -d by omega)
    omega
  have e4 : (2 * -d) * (2 * -d) = 4 * (d * d) := by grind
  omega
theorem sv_low {l : List Int} (hq : quadB l = true) {i : Nat} (hi : i < 4) (hlt : sv l i < l.getD i 0) : quadB (swl l i) = true := by
  rw [quad_swl hq hi, swl_get (by rw [quad_len hq]; exact hi), inB_iff]
  obtain ⟨a, b, c, d, rfl, ha, hb, hc, hd, hs, hf⟩ := quadB_iff.1 hq
  have za := ha
  have zb := hb
  have zc := hc
  have zd := hd
  unfold bq at za zb zc zd
  match i, hi with
  | 0, _ =>
    have := swap_form (x := a) (b := b) (c := c) (d := d) (by omega) (by grind)
    have hl := low_core (a := b) (b := c) (c := d) (d := 2 * (b + c + d) - a) hb hc hd (by omega) (by grind)
    simp only [sv, List.getD_cons_zero, List.sum_cons, List.sum_nil] at hlt ⊢
    omega
  | 1, _ =>
    have := swap_form (x := b) (b := a) (c := c) (d := d) (by omega) (by grind)
    have hl := low_core (a := a) (b := c) (c := d) (d := 2 * (a + c + d) - b) ha hc hd (by omega) (by grind)
    simp only [sv, List.getD_cons_zero, List.getD_cons_succ, List.sum_cons, List.sum_nil] at hlt ⊢
    omega
  | 2, _ =>
    have := swap_form (x := c) (b := a) (c := b) (d := d) (by omega) (by grind)
    have hl := low_core (a := a) (b := b) (c := d) (d := 2 * (a + b + d) - c) ha hb hd (by omega) (by grind)
    simp only [sv, List.getD_cons_zero, List.getD_cons_succ, List.sum_cons, List.sum_nil] at hlt ⊢
    omega
  | 3, _ =>
    have := swap_form (x := d) (b := a) (c := b) (d := c) (by omega) (by grind)
    have hl := low_core (a := a) (b := b) (c := c) (d := 2 * (a + b + c) - d) ha hb hc (by omega) (by grind)
    simp only [sv, List.getD_cons_zero, List.getD_cons_succ, List.sum_cons, List.sum_nil] at hlt ⊢
    omega
  | (i + 4), h => omega
theorem dwn_pos {l : List Int} (h : 0 ≤ dwn l) : dwn l = ((argm l 0 0 4 : Nat) : Int) ∧ sv l (argm l 0 0 4) < l.getD (argm l 0 0 4) 0 := by
  unfold dwn dres at h ⊢
  by_cases hc : l.getD (argm l 0 0 4) 0 ≤ sv l (argm l 0 0 4)
  · rw [if_pos hc] at h
    omega
  · rw [if_neg hc]
    exact ⟨rfl, by omega⟩
/-- the next quad on the way down -/
def nxt (l : List Int) : List Int := swl l (argm l 0 0 4)
theorem nxt_quad {l : List Int} (hq : quadB l = true) (h : 0 ≤ dwn l) : quadB (nxt l) = true := sv_low hq (argm4 l).2.2 (dwn_pos h).2
/-- at most n quads below one -/
def runD : Nat → List Int → List (List Int)
  | 0, _ => []
  | n + 1, q => if 0 ≤ dwn q then nxt q :: runD n (nxt q) else []
def wrdD : Nat → List Int → List Int
  | 0, _ => []
  | n + 1, q => if 0 ≤ dwn q then dwn q :: wrdD n (nxt q) else []
theorem runD_len (n : Nat) : ∀ q, (runD n q).length ≤ n := by
  induction n with
  | zero => intro q; simp [runD]
  | succ n ih =>
    intro q
    simp only [runD]
    split
    · simp only [List.length_cons]; have := ih (nxt q); omega
    · simp
theorem runD_quads (n : Nat) : ∀ q, quadB q = true → ∀ x ∈ runD n q, quadB x = true := by
  induction n with
  | zero => intro q _ x hx; simp [runD] at hx
  | succ n ih =>
    intro q hq x hx
    simp only [runD] at hx
    split at hx
    · rename_i h
      rcases List.mem_cons.1 hx with rfl | hx
      · exact nxt_quad hq h
      · exact ih _ (nxt_quad hq h) x hx
    · simp at hx
theorem l1Own_f (l : List Int) (h : l.length < 17592186044416) : spec_l1Own.f l = some l := by
  unfold spec_l1Own.f
  simp [h]
theorem apPath_l (n : Nat) : ∀ (q : List Int) (out : List (List Int)), quadB q = true → out.length + n = 201 → Ev (fun k => spec_apPath.l0 k q out (dwn q)) (out ++ runD n q) := by
  induction n with
  | zero =>
    intro q out hq hn
    refine Ev.step (f := fun _ => some out) (fun k => ?_) (by simp only [runD, List.append_nil]; exact Ev.now _)
    simp only [spec_apPath.l0]
    rw [if_neg (show ¬ (out.length : Int) ≤ 200 by omega)]
    split <;> rfl
  | succ n ih =>
    intro q out hq hn
    by_cases h : 0 ≤ dwn q
    · obtain ⟨e, hl⟩ := dwn_pos h
      have hqn := nxt_quad hq h
      refine Ev.step (f := fun k => (spec_apDown.f k (nxt q)).bind fun j => spec_apPath.l0 k (nxt q) (out ++ [nxt q]) j) (fun k => ?_) ?_
      · simp only [spec_apPath.l0]
        rw [if_pos h, if_pos (by omega), e, apSwap_f hq (argm4 q).2.2]
        rfl
      · refine Ev.bind (apDown_ev hqn) ?_
        have := ih (nxt q) (out ++ [nxt q]) hqn (by simp; omega)
        simp only [runD, if_pos h]
        simpa using this
    · refine Ev.step (f := fun _ => some out) (fun k => ?_) (by simp only [runD, if_neg h, List.append_nil]; exact Ev.now _)
      simp only [spec_apPath.l0]
      rw [if_neg h]
theorem apPath_ev {q : List Int} (hq : quadB q = true) : Ev (fun k => spec_apPath.f k q) (q :: runD 200 q) := by
  have h4 := quad_len hq
  unfold spec_apPath.f
  rw [l1Own_f q (by omega)]
  simp only [Option.bind_some]
  exact Ev.bind (apDown_ev hq) (apPath_l 200 q [q] hq rfl)
def pathR (q : List Int) : List (List Int) × Bool := if quadB q = true ∧ (runD 200 q).length < 200 then (q :: runD 200 q, true) else ([], false)
theorem pathR_len (q : List Int) : (pathR q).1.length ≤ 201 := by
  unfold pathR
  split
  · have := runD_len 200 q; simp; omega
  · simp
theorem downS_ev (q : List Int) (hl : (q.length : Int) ≤ 9223372036854775806) : Ev (fun k => spec_DownPath.f k q) (pathR q) := by
  have ht := apGood_ev q hl
  unfold spec_DownPath.f pathR
  refine Ev.bind ht ?_
  cases hq : quadB q with
  | false => simp only [Bool.false_eq_true, if_false, false_and]; exact Ev.now _
  | true =>
    simp only [if_true, true_and]
    refine Ev.bind (apPath_ev hq) ?_
    by_cases h : (runD 200 q).length < 200
    · simp only [if_pos h, List.length_cons, if_neg (show ¬ (((runD 200 q).length + 1 : Nat) : Int) > 200 by omega)]
      exact Ev.now _
    · simp only [if_neg h, List.length_cons, if_pos (show (((runD 200 q).length + 1 : Nat) : Int) > 200 by omega)]
      exact Ev.now _
theorem clone_f (l : List Int) (h : l.length < 17592186044416) : slices_Clone_int_int_80.f l = some l := by
  unfold slices_Clone_int_int_80.f
  rw [if_pos h]
theorem down_l (n : Nat) : ∀ (q : List Int) (path : List (List Int)) (word : List Int), quadB q = true → path.length + n = 201 → 0 < n → word.length ≤ 1000 - n →
    Ev (fun k => impl_down.l0 k q path word) (if (runD n q).length < n then (path ++ runD n q, word ++ wrdD n q, true) else ([], [], false)) := by
  induction n with
  | zero => intro q path word _ _ h0; omega
  | succ n ih =>
    intro q path word hq hn _ hw
    have h4 := quad_len hq
    have hr := isRoot_ev hq
    rw [root_iff] at hr
    by_cases h : 0 ≤ dwn q
    · rw [decide_eq_false (show ¬ dwn q < 0 by omega)] at hr
      obtain ⟨e, hl⟩ := dwn_pos h
      have hqn := nxt_quad hq h
      have h4n := quad_len hqn
      refine Ev.step (f := fun k => (impl_isRoot.f k q).bind fun t => if t = true then some (path, word, true) else (impl_greatest.f k q).bind fun g => (impl_swapped.f k q g).bind fun s => (slices_Clone_int_int_80.f s).bind fun c => if path.length < 5864062014805 then ((some (path ++ [c] : List (List Int))).bind fun y => if word.length < 17592186044416 then (if (y.length : Int) > 200 then some ([], [], false) else impl_down.l0 k s y (word ++ [g])) else none) else none) (fun k => by simp only [impl_down.l0]) ?_
      refine Ev.bind hr ?_
      simp only [Bool.false_eq_true, if_false]
      refine Ev.bind (greatest_ev hq) ?_
      refine Ev.bind (swapped_ev hq (argm4 q).2.2) ?_
      have hcl := clone_f (nxt q) (by omega)
      unfold nxt at hcl
      rw [hcl]
      simp only [Option.bind_some, if_pos (show path.length < 5864062014805 by omega), if_pos (show word.length < 17592186044416 by omega), List.length_append, List.length_cons, List.length_nil]
      simp only [runD, wrdD, if_pos h, List.length_cons]
      by_cases hn0 : n = 0
      · subst hn0
        simp only [if_pos (show ((path.length + (0 + 1) : Nat) : Int) > 200 by omega), runD, List.length_nil, if_neg (show ¬ (0 + 1 < 0 + 1) by omega)]
        exact Ev.now _
      · simp only [if_neg (show ¬ ((path.length + (0 + 1) : Nat) : Int) > 200 by omega)]
        have := ih (nxt q) (path ++ [nxt q]) (word ++ [dwn q]) hqn (by simp; omega) (by omega) (by simp; omega)
        rw [← e]
        by_cases hlt : (runD n (nxt q)).length < n
        · rw [if_pos hlt] at this
          rw [if_pos (by omega)]
          simpa [nxt] using this
        · rw [if_neg hlt] at this
          rw [if_neg (by omega)]
          exact this
    · rw [decide_eq_true (show dwn q < 0 by omega)] at hr
      refine Ev.step (f := fun k => (impl_isRoot.f k q).bind fun t => if t = true then some (path, word, true) else (impl_greatest.f k q).bind fun g => (impl_swapped.f k q g).bind fun s => (slices_Clone_int_int_80.f s).bind fun c => if path.length < 5864062014805 then ((some (path ++ [c] : List (List Int))).bind fun y => if word.length < 17592186044416 then (if (y.length : Int) > 200 then some ([], [], false) else impl_down.l0 k s y (word ++ [g])) else none) else none) (fun k => by simp only [impl_down.l0]) ?_
      refine Ev.bind hr ?_
      simp only [if_true, runD, wrdD, if_neg h, List.length_nil, List.append_nil, if_pos (show 0 < n + 1 by omega)]
      exact Ev.now _
theorem down_ev {q : List Int} (hq : quadB q = true) : Ev (fun k => impl_down.f k q) (if (runD 200 q).length < 200 then (q :: runD 200 q, wrdD 200 q, true) else ([], [], false)) := by
  have h4 := quad_len hq
  unfold impl_down.f
  rw [clone_f q (by omega)]
  have := down_l 200 q [q] [] hq rfl (by decide) (by decide)
  simpa using this
theorem downI_ev (q : List Int) : Ev (fun k => impl_DownPath.f k q) (pathR q) := by
  unfold impl_DownPath.f pathR
  refine Ev.bind (isQuad_ev q) ?_
  cases hq : quadB q with
  | false => simp only [Bool.false_eq_true, if_false, false_and]; exact Ev.now _
  | true =>
    simp only [if_true, true_and]
    refine Ev.bind (down_ev hq) ?_
    by_cases h : (runD 200 q).length < 200
    · simp only [if_pos h]; exact Ev.now _
    · simp only [if_neg h]; exact Ev.now _
def insR (x : Int) : List Int → List Int
  | [] => [x]
  | y :: t => if y ≤ x then y :: insR x t else x :: y :: t
theorem insR_perm (x : Int) : ∀ l, (insR x l).Perm (x :: l)
  | [] => List.Perm.refl _
  | y :: t => by
    simp only [insR]
    split
    · exact ((insR_perm x t).cons y).trans (List.Perm.swap x y t)
    · exact List.Perm.refl _
theorem insR_pw (x : Int) : ∀ l : List Int, l.Pairwise (fun a b => a ≤ b) → (insR x l).Pairwise (fun a b => a ≤ b)
  | [], _ => by simp [insR]
  | y :: t, h => by
    simp only [insR]
    have h0 := List.pairwise_cons.1 h
    split
    · rename_i hxy
      refine List.pairwise_cons.2 ⟨fun b hb => ?_, insR_pw x t h0.2⟩
      rcases List.mem_cons.1 ((insR_perm x t).mem_iff.1 hb) with rfl | hb
      · exact hxy
      · exact h0.1 b hb
    · rename_i hxy
      refine List.pairwise_cons.2 ⟨fun b hb => ?_, h⟩
      rcases List.mem_cons.1 hb with rfl | hb
      · omega
      · have := h0.1 b hb; omega
def foldR (out : List Int) : List Int → List Int
  | [] => out
  | x :: t => foldR (insR x out) t
theorem foldR_perm : ∀ (l out : List Int), (foldR out l).Perm (out ++ l)
  | [], out => by simp [foldR]
  | x :: t, out => by
    simp only [foldR]
    refine (foldR_perm t _).trans (((insR_perm x out).append_right t).trans ?_)
    exact (List.perm_middle (a := x) (l₁ := out) (l₂ := t)).symm
theorem foldR_pw : ∀ (l out : List Int), out.Pairwise (fun a b => a ≤ b) → (foldR out l).Pairwise (fun a b => a ≤ b)
  | [], _, h => h
  | x :: t, out, h => foldR_pw t _ (insR_pw x out h)
theorem foldR_sort (l : List Int) : foldR [] l = sortI l :=
  List.Perm.eq_of_pairwise (le := fun a b => a ≤ b) (fun _ _ _ _ h1 h2 => Int.le_antisymm h1 h2) (foldR_pw l [] List.Pairwise.nil) (sortI_pw l) (List.Perm.trans (by simpa using foldR_perm l []) (sortI_perm l).symm)
theorem insR_len (x : Int) (l : List Int) : (insR x l).length = l.length + 1 := by rw [(insR_perm x l).length_eq]; rfl
theorem apSorted_i (q : List Int) (n i : Int) (x : Int) (rest : List Int) : ∀ (pre : List Int) (r : List Int), pre.length + rest.length ≤ 1000 → 0 ≤ i → i ≤ 1000 →
    Ev (fun k => spec_apSorted.l0 k (pre ++ insR x rest) q n (i + 1)) r → Ev (fun k => spec_apSorted.l1 k (pre ++ rest) x (pre.length : Int) q n i) r := by
  have put : ∀ (pre rest r : List Int), pre.length + rest.length ≤ 1000 → 0 ≤ i → i ≤ 1000 → Ev (fun k => spec_apSorted.l0 k (pre ++ x :: rest) q n (i + 1)) r →
      Ev (fun k => (if ((pre.length : Nat) : Int) ≤ ((pre ++ rest).length : Int) then ((spec_l1Own.f ((pre ++ rest).take ((pre.length : Nat) : Int).toNat)).bind fun t => (if t.length < 17592186044416 then ((some (t ++ [x] : List Int)).bind fun y => ((some ((pre ++ rest).drop ((pre.length : Nat) : Int).toNat : List Int)).bind fun z => (if y.length + z.length < 17592186044416 then (spec_apSorted.l0 k (y ++ z) q n (wrap64 (i + 1))) else (none)))) else (none))) else (none))) r := by
    intro pre rest r hl h0 h1 h
    obtain ⟨K, h⟩ := h
    refine ⟨K, fun k hk => ?_⟩
    have h := h k hk
    dsimp only at h ⊢
    rw [if_pos (by rw [List.length_append]; omega)]
    simp only [Int.toNat_natCast, List.take_left, List.drop_left]
    rw [l1Own_f pre (by omega)]
    simp only [Option.bind_some]
    rw [if_pos (by omega), if_pos (by simp only [List.length_append, List.length_cons, List.length_nil]; omega), wrap_id (by omega) (by omega)]
    simpa using h
  induction rest with
  | nil =>
    intro pre r hl h0 h1 h
    refine Ev.step (f := fun k => (if ((pre.length : Nat) : Int) ≤ ((pre ++ []).length : Int) then ((spec_l1Own.f ((pre ++ []).take ((pre.length : Nat) : Int).toNat)).bind fun t => (if t.length < 17592186044416 then ((some (t ++ [x] : List Int)).bind fun y => ((some ((pre ++ []).drop ((pre.length : Nat) : Int).toNat : List Int)).bind fun z => (if y.length + z.length < 17592186044416 then (spec_apSorted.l0 k (y ++ z) q n (wrap64 (i + 1))) else (none)))) else (none))) else (none))) (fun k => ?_) (put pre [] r hl h0 h1 h)
    simp only [spec_apSorted.l1]
    rw [if_neg (by simp), if_pos (by omega)]
  | cons y t ih =>
    intro pre r hl h0 h1 h
    have hrd : rd (pre ++ y :: t) ((pre.length : Nat) : Int) = y := by simp [rd]
    have hlt : ((pre.length : Nat) : Int) < ((pre ++ y :: t).length : Int) := by simp only [List.length_append, List.length_cons]; omega
    simp only [List.length_cons] at hl
    by_cases hy : y ≤ x
    · refine Ev.step (f := fun k => spec_apSorted.l1 k ((pre ++ [y]) ++ t) x ((pre ++ [y]).length : Int) q n i) (fun k => ?_) (ih (pre ++ [y]) r (by simp; omega) h0 h1 (by simpa [insR, hy] using h))
      simp only [spec_apSorted.l1]
      rw [if_pos hlt, if_pos (by omega), hrd, if_pos hy, wrap_id (by omega) (by omega)]
      simp
    · refine Ev.step (f := fun k => (if ((pre.length : Nat) : Int) ≤ ((pre ++ (y :: t)).length : Int) then ((spec_l1Own.f ((pre ++ (y :: t)).take ((pre.length : Nat) : Int).toNat)).bind fun t_ => (if t_.length < 17592186044416 then ((some (t_ ++ [x] : List Int)).bind fun y_ => ((some ((pre ++ (y :: t)).drop ((pre.length : Nat) : Int).toNat : List Int)).bind fun z => (if y_.length + z.length < 17592186044416 then (spec_apSorted.l0 k (y_ ++ z) q n (wrap64 (i + 1))) else (none)))) else (none))) else (none))) (fun k => ?_) (put pre (y :: t) r (by simp only [List.length_cons]; omega) h0 h1 (by simpa [insR, hy] using h))
      simp only [spec_apSorted.l1]
      rw [if_pos hlt, if_pos (by omega), hrd, if_neg hy]
theorem apSorted_l (rest : List Int) : ∀ (pre out : List Int), pre.length + rest.length ≤ 900 → out.length ≤ pre.length →
    Ev (fun k => spec_apSorted.l0 k out (pre ++ rest) ((pre ++ rest).length : Int) (pre.length : Int)) (foldR out rest) := by
  induction rest with
  | nil =>
    intro pre out hl ho
    refine Ev.step (f := fun _ => some out) (fun k => ?_) (Ev.now _)
    simp only [spec_apSorted.l0]
    rw [if_neg (by simp)]
  | cons x t ih =>
    intro pre out hl ho
    have hrd : rd (pre ++ x :: t) ((pre.length : Nat) : Int) = x := by simp [rd]
    have hlt : ((pre.length : Nat) : Int) < ((pre ++ x :: t).length : Int) := by simp only [List.length_append, List.length_cons]; omega
    simp only [List.length_cons] at hl
    have h2 := ih (pre ++ [x]) (insR x out) (by simp; omega) (by rw [insR_len]; simp; omega)
    have h3 := apSorted_i (pre ++ x :: t) ((pre ++ x :: t).length : Int) (pre.length : Int) x out [] (foldR (insR x out) t) (by simp; omega) (by omega) (by omega) (by simpa using h2)
    refine Ev.step (f := fun k => spec_apSorted.l1 k out x 0 (pre ++ x :: t) ((pre ++ x :: t).length : Int) (pre.length : Int)) (fun k => ?_) (by simpa [foldR] using h3)
    simp only [spec_apSorted.l0]
    rw [if_pos hlt, if_pos (by omega), if_pos hlt, hrd]
theorem apSorted_ev (l : List Int) (hl : l.length ≤ 900) : Ev (fun k => spec_apSorted.f k l) (sortI l) := by
  have := apSorted_l l [] [] (by simpa using hl) (Nat.le_refl _)
  rw [foldR_sort] at this
  simpa [spec_apSorted.f] using this
/-- The root to which a quad comes. -/
def rootR (q : List Int) : List Int × Bool := if (pathR q).2 = true then (sortI ((pathR q).1.getLastD []), true) else ([], false)
theorem pathR_ne {q : List Int} (h : (pathR q).2 = true) : (pathR q).1 ≠ [] := by
  unfold pathR at *
  split at h
  · rename_i h1; rw [if_pos h1]; simp
  · cases h
theorem pathR_quads {q : List Int} {x : List Int} (h : x ∈ (pathR q).1) : quadB x = true := by
  unfold pathR at h
  split at h
  · rename_i h1
    rcases List.mem_cons.1 h with rfl | hx
    · exact h1.1
    · exact runD_quads 200 q h1.1 x hx
  · cases h
theorem last_rd {l : List (List Int)} (h : l ≠ []) (hl : l.length ≤ 1000) : 0 ≤ wrap64 ((l.length : Int) - 1) ∧ wrap64 ((l.length : Int) - 1) < (l.length : Int) ∧ rd_L1 l (wrap64 ((l.length : Int) - 1)) = l.getLastD [] := by
  have hp : 0 < l.length := List.length_pos_iff.2 h
  rw [wrap_id (by omega) (by omega)]
  refine ⟨by omega, by omega, ?_⟩
  rw [show ((l.length : Int) - 1) = ((l.length - 1 : Nat) : Int) by omega]
  simp [rd_L1, List.getD_eq_getElem?_getD, List.getLastD_eq_getLast?, List.getLast?_eq_getElem?]
theorem last_quad {q : List Int} (h : (pathR q).2 = true) : quadB ((pathR q).1.getLastD []) = true := by
  have hne := pathR_ne h
  refine pathR_quads (q := q) ?_
  rw [List.getLastD_eq_getLast?, List.getLast?_eq_some_getLast hne]
  exact List.getLast_mem hne
theorem rootS_ev (q : List Int) (hl : (q.length : Int) ≤ 9223372036854775806) : Ev (fun k => spec_RootQuad.f k q) (rootR q) := by
  unfold spec_RootQuad.f rootR
  refine Ev.bind (downS_ev q hl) ?_
  cases h : (pathR q).2 with
  | false => simp only [Bool.false_eq_true, if_false]; exact Ev.now _
  | true =>
    obtain ⟨h1, h2, h3⟩ := last_rd (pathR_ne h) (by have := pathR_len q; omega)
    have h4 := quad_len (last_quad h)
    simp only [if_true, if_pos h1, if_pos h2, h3]
    exact Ev.bind (apSorted_ev _ (by omega)) (Ev.now _)
theorem rootI_ev (q : List Int) : Ev (fun k => impl_RootQuad.f k q) (rootR q) := by
  unfold impl_RootQuad.f rootR
  refine Ev.bind (downI_ev q) ?_
  cases h : (pathR q).2 with
  | false => simp only [Bool.false_eq_true, if_false]; exact Ev.now _
  | true =>
    obtain ⟨h1, h2, h3⟩ := last_rd (pathR_ne h) (by have := pathR_len q; omega)
    have h4 := quad_len (last_quad h)
    simp only [if_true, if_pos h1, if_pos h2, h3]
    have : slices_Sorted_int.f ((pathR q).1.getLastD []) = some (sortI ((pathR q).1.getLastD [])) := by
      unfold slices_Sorted_int.f
      rw [if_pos (by rw [h4]; rfl)]
    rw [this]
    exact Ev.now _
/-- How great the sum of a quad is at the least, m swaps behind the root. -/
def sM : Nat → Int
  | 0 => 1
  | m + 1 => sM m + 4 * (m : Int)
structure Inv (m : Nat) (q : List Int) (last : Int) : Prop where
  quad : quadB q = true
  pos : ∀ i j : Nat, i < 4 → j < 4 → i ≠ j → 1 ≤ q.getD i 0 + q.getD j 0
  sum : sM m ≤ q.sum
  inc : ∀ j : Nat, j < 4 → (j : Int) ≠ last → 4 * (m : Int) ≤ 2 * q.sum - 4 * q.getD j 0
theorem sM_pos (m : Nat) : 1 ≤ sM m := by
  induction m with
  | zero => exact Int.le_refl _
  | succ m ih => simp only [sM]; omega
theorem sM_mono (m : Nat) (h : 22 ≤ m) : 925 ≤ sM m := by
  induction m with
  | zero => omega
  | succ m ih =>
    by_cases h2 : 22 ≤ m
    · have := ih h2; simp only [sM]; omega
    · obtain rfl : m = 21 := by omega
      exact by decide
theorem Inv.deep {m : Nat} {q : List Int} {last : Int} (h : Inv m q last) {j : Nat} (hj : j < 4) (hl : (j : Int) ≠ last) (hv : sv q j ≤ 500) : m ≤ 21 := by
  have h1 := h.sum
  have h2 := h.inc j hj hl
  unfold sv at hv
  by_cases hm : m ≤ 21
  · exact hm
  · have := sM_mono m (by omega)
    omega
theorem Inv.new {m : Nat} {q : List Int} {last : Int} (h : Inv m q last) {j : Nat} (hj : j < 4) (hl : (j : Int) ≠ last) : 1 ≤ sv q j ∧ q.getD j 0 ≤ sv q j := by
  have h1 := h.sum
  have h2 := h.inc j hj hl
  have h3 := sM_pos m
  unfold sv
  omega
theorem Inv.child {m : Nat} {q : List Int} {last : Int} (h : Inv m q last) {j : Nat} (hj : j < 4) (hl : (j : Int) ≠ last) (hv : sv q j ≤ 500) : Inv (m + 1) (swl q j) j := by
  have hn := h.new hj hl
  have hi := h.inc j hj hl
  have hs := h.sum
  have hq2 := quad_swl h.quad hj
  have h4 := quad_len h.quad
  rw [swl_get (by omega), inB_of ⟨by omega, by omega⟩] at hq2
  obtain ⟨a, b, c, d, rfl, _⟩ := quadB_iff.1 h.quad
  have p01 := h.pos 0 1 (by omega) (by omega) (by omega)
  have p02 := h.pos 0 2 (by omega) (by omega) (by omega)
  have p03 := h.pos 0 3 (by omega) (by omega) (by omega)
  have p12 := h.pos 1 2 (by omega) (by omega) (by omega)
  have p13 := h.pos 1 3 (by omega) (by omega) (by omega)
  have p23 := h.pos 2 3 (by omega) (by omega) (by omega)
  clear h hl h4
  have key : ∀ x0 x1 x2 x3 : Int, (∀ i k : Nat, i < 4 → k < 4 → i ≠ k → 1 ≤ ([x0, x1, x2, x3] : List Int).getD i 0 + ([x0, x1, x2, x3] : List Int).getD k 0) ↔ (1 ≤ x0 + x1 ∧ 1 ≤ x0 + x2 ∧ 1 ≤ x0 + x3 ∧ 1 ≤ x1 + x2 ∧ 1 ≤ x1 + x3 ∧ 1 ≤ x2 + x3) := by
    intro x0 x1 x2 x3
    constructor
    · intro h
      have q01 := h 0 1 (by omega) (by omega) (by omega)
      have q02 := h 0 2 (by omega) (by omega) (by omega)
      have q03 := h 0 3 (by omega) (by omega) (by omega)
      have q12 := h 1 2 (by omega) (by omega) (by omega)
      have q13 := h 1 3 (by omega) (by omega) (by omega)
      have q23 := h 2 3 (by omega) (by omega) (by omega)
      simp at q01 q02 q03 q12 q13 q23
      omega
    · intro h i k hi hk hne
      match i, k, hi, hk, hne with
      | 0, 1, _, _, _ => simp; omega
      | 0, 2, _, _, _ => simp; omega
      | 0, 3, _, _, _ => simp; omega
      | 1, 0, _, _, _ => simp; omega
      | 1, 2, _, _, _ => simp; omega
      | 1, 3, _, _, _ => simp; omega
      | 2, 0, _, _, _ => simp; omega
      | 2, 1, _, _, _ => simp; omega
      | 2, 3, _, _, _ => simp; omega
      | 3, 0, _, _, _ => simp; omega
      | 3, 1, _, _, _ => simp; omega
      | 3, 2, _, _, _ => simp; omega
      | 3, 3, _, _, h => exact absurd rfl h
  match j, hj with
  | 0, _ =>
    rw [swl0] at *
    simp [sv] at *
    refine ⟨hq2, (key _ _ _ _).2 (by omega), by simp only [sM]; simp; omega, ?_⟩
    intro k hk hne
    match k, hk with
    | 0, _ => exact absurd rfl hne
    | 1, _ => simp; omega
    | 2, _ => simp; omega
    | 3, _ => simp; omega
  | 1, _ =>
    rw [swl1] at *
    simp [sv] at *
    refine ⟨hq2, (key _ _ _ _).2 (by omega), by simp only [sM]; simp; omega, ?_⟩
    intro k hk hne
    match k, hk with
    | 0, _ => simp; omega
    | 1, _ => exact absurd rfl hne
    | 2, _ => simp; omega
    | 3, _ => simp; omega
  | 2, _ =>
    rw [swl2] at *
    simp [sv] at *
    refine ⟨hq2, (key _ _ _ _).2 (by omega), by simp only [sM]; simp; omega, ?_⟩
    intro k hk hne
    match k, hk with
    | 0, _ => simp; omega
    | 1, _ => simp; omega
    | 2, _ => exact absurd rfl hne
    | 3, _ => simp; omega
  | 3, _ =>
    rw [swl3] at *
    simp [sv] at *
    refine ⟨hq2, (key _ _ _ _).2 (by omega), by simp only [sM]; simp; omega, ?_⟩
    intro k hk hne
    match k, hk with
    | 0, _ => simp; omega
    | 1, _ => simp; omega
    | 2, _ => simp; omega
    | 3, _ => exact absurd rfl hne
/-- At most so many come of one swap at a quad with d swaps still open. -/
def wM : Nat → Nat
  | 0 => 0
  | d + 1 => 1 + 3 * wM d
theorem wM_22 : wM 22 = 15690529804 := by decide
/-- The swaps that are open from index i on. -/
def cM (i : Nat) (last : Int) : Nat := if (i : Int) ≤ last then 3 - i else 4 - i
theorem tree_l (d : Nat) : ∀ (m : Nat) (q : List Int) (last most : Int), m + d = 22 → Inv m q last → -1 ≤ last → last ≤ 3 → most ≤ 500 →
    ∀ (e i : Nat) (out : List Int), i + e = 4 → out.length + cM i last * wM d ≤ 1000000000000 →
    ∃ t : List Int, Ev (fun k => impl_circles.l0 k out q last most 4 (i : Int)) (out ++ t) ∧ Ev (fun k => spec_apTree.l0 k out q last most 4 (i : Int)) (out ++ t) ∧ t.length ≤ cM i last * wM d ∧ ∀ x ∈ t, 1 ≤ x ∧ x ≤ most := by
  induction d with
  | zero =>
    intro m q last most hm hI hl0 hl3 hmo e
    induction e with
    | zero =>
      intro i out hi hb
      refine ⟨[], ?_, ?_, by simp, by simp⟩
      · refine Ev.step (f := fun _ => some out) (fun k => ?_) (by rw [List.append_nil]; exact Ev.now _)
        simp only [impl_circles.l0]
        rw [if_neg (by omega)]
      · refine Ev.step (f := fun _ => some out) (fun k => ?_) (by rw [List.append_nil]; exact Ev.now _)
        simp only [spec_apTree.l0]
        rw [if_neg (by omega)]
    | succ e ih =>
      intro i out hi hb
      obtain ⟨t, e1, e2, e3, e4⟩ := ih (i + 1) out (by omega) (by simp only [wM, Nat.mul_zero] at hb ⊢; exact hb)
      have hw : wrap64 ((i : Int) + 1) = ((i + 1 : Nat) : Int) := by rw [wrap_id (by omega) (by omega)]; omega
      have hlen := quad_len hI.quad
      refine ⟨t, ?_, ?_, by simpa [wM] using e3, e4⟩
      · by_cases hil : (i : Int) = last
        · refine Ev.step (f := fun k => impl_circles.l0 k out q last most 4 ((i + 1 : Nat) : Int)) (fun k => ?_) e1
          simp only [impl_circles.l0]
          rw [if_pos (by omega), if_pos hil, hw]
        · have hnv : ¬ sv q i ≤ most := fun hv => by have := hI.deep (show i < 4 by omega) hil (by omega); omega
          refine Ev.step (f := fun k => (impl_swapped.f k q (i : Int)).bind fun t => (if 0 ≤ (i : Int) then (if (i : Int) < (t.length : Int) then (if (rd t (i : Int)) ≤ most then (if out.length < 17592186044416 then ((impl_circles.f k (out ++ [rd t (i : Int)]) t (i : Int) most).bind fun t2 => (impl_circles.l0 k t2 q last most 4 (wrap64 ((i : Int) + 1)))) else (none)) else (impl_circles.l0 k out q last most 4 (wrap64 ((i : Int) + 1)))) else (none)) else (none))) (fun k => ?_) ?_
          · simp only [impl_circles.l0]
            rw [if_pos (by omega), if_neg hil]
          · refine Ev.bind (swapped_ev hI.quad (show i < 4 by omega)) ?_
            simp only [swl_length, hlen, rd_nat]
            rw [swl_get (by omega)]
            simp only [if_pos (show (0 : Int) ≤ (i : Int) by omega), if_pos (show (i : Int) < ((4 : Nat) : Int) by omega), if_neg hnv, hw]
            exact e1
      · by_cases hil : (i : Int) = last
        · refine Ev.step (f := fun k => spec_apTree.l0 k out q last most 4 ((i + 1 : Nat) : Int)) (fun k => ?_) e2
          simp only [spec_apTree.l0]
          rw [if_pos (by omega), if_pos hil, hw]
        · have hnv : ¬ sv q i ≤ most := fun hv => by have := hI.deep (show i < 4 by omega) hil (by omega); omega
          refine Ev.step (f := fun k => spec_apTree.l0 k out q last most 4 ((i + 1 : Nat) : Int)) (fun k => ?_) e2
          simp only [spec_apTree.l0]
          rw [if_pos (by omega), if_neg hil, apSwap_f hI.quad (show i < 4 by omega)]
          simp only [Option.bind_some, swl_length, hlen, rd_nat]
          rw [swl_get (by omega), if_pos (by omega), if_pos (by omega), if_neg hnv, hw]
  | succ d ihd =>
    intro m q last most hm hI hl0 hl3 hmo e
    induction e with
    | zero =>
      intro i out hi hb
      refine ⟨[], ?_, ?_, by simp, by simp⟩
      · refine Ev.step (f := fun _ => some out) (fun k => ?_) (by rw [List.append_nil]; exact Ev.now _)
        simp only [impl_circles.l0]
        rw [if_neg (by omega)]
      · refine Ev.step (f := fun _ => some out) (fun k => ?_) (by rw [List.append_nil]; exact Ev.now _)
        simp only [spec_apTree.l0]
        rw [if_neg (by omega)]
    | succ e ih =>
      intro i out hi hb
      have hw : wrap64 ((i : Int) + 1) = ((i + 1 : Nat) : Int) := by rw [wrap_id (by omega) (by omega)]; omega
      have hlen := quad_len hI.quad
      by_cases hil : (i : Int) = last
      · have hc : cM (i + 1) last = cM i last := by
          unfold cM
          rw [if_neg (by omega), if_pos (by omega)]
          omega
        obtain ⟨t, e1, e2, e3, e4⟩ := ih (i + 1) out (by omega) (by rw [hc]; exact hb)
        refine ⟨t, ?_, ?_, by rw [hc] at e3; exact e3, e4⟩
        · refine Ev.step (f := fun k => impl_circles.l0 k out q last most 4 ((i + 1 : Nat) : Int)) (fun k => ?_) e1
          simp only [impl_circles.l0]
          rw [if_pos (by omega), if_pos hil, hw]
        · refine Ev.step (f := fun k => spec_apTree.l0 k out q last most 4 ((i + 1 : Nat) : Int)) (fun k => ?_) e2
          simp only [spec_apTree.l0]
          rw [if_pos (by omega), if_pos hil, hw]
      · have hc : cM i last = cM (i + 1) last + 1 := by
          unfold cM
          by_cases h : (i : Int) < last
          · rw [if_pos (by omega), if_pos (by omega)]; omega
          · rw [if_neg (by omega), if_neg (by omega)]; omega
        rw [hc] at hb
        have hmul : (cM (i + 1) last + 1) * wM (d + 1) = cM (i + 1) last * wM (d + 1) + wM (d + 1) := by rw [Nat.add_mul, Nat.one_mul]
        have hw1 : wM (d + 1) = 1 + 3 * wM d := rfl
        by_cases hv : sv q i ≤ most
        · -- the swap is taken
          have hC := hI.child (show i < 4 by omega) hil (by omega)
          have hn := hI.new (show i < 4 by omega) hil
          have hc0 : cM 0 (i : Int) = 3 := by unfold cM; rw [if_pos (by omega)]
          obtain ⟨t1, c1, c2, c3, c4⟩ := ihd (m + 1) (swl q i) (i : Int) most (by omega) hC (by omega) (by omega) hmo 4 0 (out ++ [sv q i]) (by omega) (by rw [hc0]; simp only [List.length_append, List.length_cons, List.length_nil]; omega)
          rw [hc0] at c3
          obtain ⟨t2, e1, e2, e3, e4⟩ := ih (i + 1) (out ++ [sv q i] ++ t1) (by omega) (by simp only [List.length_append, List.length_cons, List.length_nil]; omega)
          have hlen2 := quad_len hC.quad
          refine ⟨sv q i :: (t1 ++ t2), ?_, ?_, ?_, ?_⟩
          · refine Ev.step (f := fun k => (impl_swapped.f k q (i : Int)).bind fun t => (if 0 ≤ (i : Int) then (if (i : Int) < (t.length : Int) then (if (rd t (i : Int)) ≤ most then (if out.length < 17592186044416 then ((impl_circles.f k (out ++ [rd t (i : Int)]) t (i : Int) most).bind fun t2 => (impl_circles.l0 k t2 q last most 4 (wrap64 ((i : Int) + 1)))) else (none)) else (impl_circles.l0 k out q last most 4 (wrap64 ((i : Int) + 1)))) else (none)) else (none))) (fun k => ?_) ?_
            · simp only [impl_circles.l0]
              rw [if_pos (by omega), if_neg hil]
            · refine Ev.bind (swapped_ev hI.quad (show i < 4 by omega)) ?_
              simp only [swl_length, hlen, rd_nat]
              rw [swl_get (by omega)]
              simp only [if_pos (show (0 : Int) ≤ (i : Int) by omega), if_pos (show (i : Int) < ((4 : Nat) : Int) by omega), if_pos hv, if_pos (show out.length < 17592186044416 by omega), hw]
              refine Ev.bind (a := out ++ [sv q i] ++ t1) ?_ (by simpa using e1)
              refine Ev.step (f := fun k => impl_circles.l0 k (out ++ [sv q i]) (swl q i) (i : Int) most 4 0) (fun k => ?_) (by simpa using c1)
              simp only [impl_circles.f, hlen2]
              rfl
          · refine Ev.step (f := fun k => (spec_apTree.f k (out ++ [sv q i]) (swl q i) (i : Int) most).bind fun t2 => (spec_apTree.l0 k t2 q last most 4 ((i + 1 : Nat) : Int))) (fun k => ?_) ?_
            · simp only [spec_apTree.l0]
              rw [if_pos (by omega), if_neg hil, apSwap_f hI.quad (show i < 4 by omega)]
              simp only [Option.bind_some, swl_length, hlen, rd_nat]
              rw [swl_get (by omega), if_pos (by omega), if_pos (by omega), if_pos hv, if_pos (by omega), hw]
            · refine Ev.bind (a := out ++ [sv q i] ++ t1) ?_ (by simpa using e2)
              refine Ev.step (f := fun k => spec_apTree.l0 k (out ++ [sv q i]) (swl q i) (i : Int) most 4 0) (fun k => ?_) (by simpa using c2)
              simp only [spec_apTree.f, hlen2]
              rfl
          · rw [hc]
            simp only [List.length_cons, List.length_append]
            omega
          · intro x hx
            rcases List.mem_cons.1 hx with rfl | hx
            · exact ⟨hn.1, hv⟩
            · rcases List.mem_append.1 hx with hx | hx
              · exact c4 x hx
              · exact e4 x hx
        · obtain ⟨t, e1, e2, e3, e4⟩ := ih (i + 1) out (by omega) (by omega)
          refine ⟨t, ?_, ?_, by rw [hc]; omega, e4⟩
          · refine Ev.step (f := fun k => (impl_swapped.f k q (i : Int)).bind fun t => (if 0 ≤ (i : Int) then (if (i : Int) < (t.length : Int) then (if (rd t (i : Int)) ≤ most then (if out.length < 17592186044416 then ((impl_circles.f k (out ++ [rd t (i : Int)]) t (i : Int) most).bind fun t2 => (impl_circles.l0 k t2 q last most 4 (wrap64 ((i : Int) + 1)))) else (none)) else (impl_circles.l0 k out q last most 4 (wrap64 ((i : Int) + 1)))) else (none)) else (none))) (fun k => ?_) ?_
            · simp only [impl_circles.l0]
              rw [if_pos (by omega), if_neg hil]
            · refine Ev.bind (swapped_ev hI.quad (show i < 4 by omega)) ?_
              simp only [swl_length, hlen, rd_nat]
              rw [swl_get (by omega)]
              simp only [if_pos (show (0 : Int) ≤ (i : Int) by omega), if_pos (show (i : Int) < ((4 : Nat) : Int) by omega), if_neg hv, hw]
              exact e1
          · refine Ev.step (f := fun k => spec_apTree.l0 k out q last most 4 ((i + 1 : Nat) : Int)) (fun k => ?_) e2
            simp only [spec_apTree.l0]
            rw [if_pos (by omega), if_neg hil, apSwap_f hI.quad (show i < 4 by omega)]
            simp only [Option.bind_some, swl_length, hlen, rd_nat]
            rw [swl_get (by omega), if_pos (by omega), if_pos (by omega), if_neg hv, hw]
/-- The tree from a root. -/
theorem tree_ev {q : List Int} (hI : Inv 0 q (-1)) (most : Int) (hmo : most ≤ 500) (out : List Int) (ho : out.length ≤ 4) :
    ∃ t : List Int, Ev (fun k => impl_circles.f k out q (-1) most) (out ++ t) ∧ Ev (fun k => spec_apTree.f k out q (-1) most) (out ++ t) ∧ t.length ≤ 100000000000 ∧ ∀ x ∈ t, 1 ≤ x ∧ x ≤ most := by
  have hc : cM 0 (-1) = 4 := rfl
  have h22 := wM_22
  obtain ⟨t, e1, e2, e3, e4⟩ := tree_l 22 0 q (-1) most rfl hI (by omega) (by omega) hmo 4 0 out rfl (by rw [hc]; omega)
  have hlen := quad_len hI.quad
  refine ⟨t, ?_, ?_, by rw [hc] at e3; omega, e4⟩
  · refine Ev.step (f := fun k => impl_circles.l0 k out q (-1) most 4 0) (fun k => ?_) (by simpa using e1)
    simp only [impl_circles.f, hlen]
    rfl
  · refine Ev.step (f := fun k => spec_apTree.l0 k out q (-1) most 4 0) (fun k => ?_) (by simpa using e2)
    simp only [spec_apTree.f, hlen]
    rfl

theorem perm_sum {l m : List Int} (h : l.Perm m) : l.sum = m.sum := by
  induction h with
  | nil => rfl
  | cons x _ ih => simp [ih]
  | swap x y l => simp; omega
  | trans _ _ ih1 ih2 => exact ih1.trans ih2
theorem pair_pos {a b c d : Int} (hs : 1 ≤ a + b + c + d) (hq : 2 * (a * a + b * b + c * c + d * d) = (a + b + c + d) * (a + b + c + d)) (hn : a < 0 ∨ b < 0 ∨ c < 0 ∨ d < 0) : 1 ≤ a + b := by
  have e : (a - b) * (a - b) + (c - d) * (c - d) = 2 * ((a + b) * (c + d)) := by grind
  have sq : ∀ x : Int, 0 ≤ x * x := fun x => by
    rcases Int.le_total 0 x with h | h
    · exact Int.mul_nonneg h h
    · have := Int.mul_nonneg (show 0 ≤ -x by omega) (show 0 ≤ -x by omega)
      rwa [Int.neg_mul_neg] at this
  have n1 := sq (a - b)
  have n2 := sq (c - d)
  by_cases h : 1 ≤ a + b
  · exact h
  · exfalso
    have hc : 1 ≤ c + d := by omega
    by_cases h0 : a + b = 0
    · rw [h0, Int.zero_mul] at e
      have z1 : (a - b) * (a - b) = 0 := by omega
      have z2 : (c - d) * (c - d) = 0 := by omega
      have y1 : a - b = 0 := by rcases Int.mul_eq_zero.1 z1 with h | h <;> exact h
      have y2 : c - d = 0 := by rcases Int.mul_eq_zero.1 z2 with h | h <;> exact h
      omega
    · have := Int.mul_pos (show 0 < -(a + b) by omega) (show 0 < c + d by omega)
      rw [Int.neg_mul] at this
      omega
theorem runD_last (n : Nat) : ∀ q, (runD n q).length < n → dwn ((q :: runD n q).getLastD []) < 0 := by
  induction n with
  | zero => intro q h; omega
  | succ n ih =>
    intro q h
    simp only [runD] at h ⊢
    by_cases h0 : 0 ≤ dwn q
    · rw [if_pos h0] at h ⊢
      simp only [List.length_cons] at h
      exact ih (nxt q) (by omega)
    · rw [if_neg h0]
      show dwn q < 0
      omega
/-- What a root with a number below 0 is. -/
theorem root_inv {q : List Int} (hp : (rootR q).2 = true) (hneg : rd (rootR q).1 0 < 0) :
    Inv 0 (rootR q).1 (-1) ∧ ∃ x y z u, (rootR q).1 = [x, y, z, u] ∧ x < 0 ∧ 1 ≤ y ∧ 1 ≤ z ∧ 1 ≤ u := by
  have hp2 : (pathR q).2 = true := by
    unfold rootR at hp
    split at hp
    · assumption
    · cases hp
  have hr : (rootR q).1 = sortI ((pathR q).1.getLastD []) := by unfold rootR; rw [if_pos hp2]
  have hlq := last_quad hp2
  have hdw : dwn ((pathR q).1.getLastD []) < 0 := by
    unfold pathR at hp2 ⊢
    split at hp2
    · rename_i h
      rw [if_pos h]
      exact runD_last 200 q h.2
    · cases hp2
  rw [hr] at hneg ⊢
  generalize (pathR q).1.getLastD [] = L at *
  have hpm := sortI_perm L
  have hpw := sortI_pw L
  have hrb : rootB L 0 4 = true := by rw [root_iff]; exact decide_eq_true hdw
  obtain ⟨a, b, c, d, rfl, ha, hb, hc, hd, hS, hQ⟩ := quadB_iff.1 hlq
  obtain ⟨x, y, z, u, hx⟩ := four (show (sortI [a, b, c, d]).length = 4 by rw [sortI_len]; rfl)
  rw [hx] at hpm hpw hneg ⊢
  have hs1 := perm_sum hpm
  have hs2 := perm_sum (hpm.map (fun t => t * t))
  simp only [List.map_cons, List.map_nil, List.sum_cons, List.sum_nil, Int.add_zero] at hs1 hs2
  simp only [rootB, Nat.zero_add, Nat.reduceAdd, Bool.and_true, Bool.and_eq_true, decide_eq_true_iff, sv] at hrb
  simp at hrb
  have mem : ∀ t ∈ ([x, y, z, u] : List Int), t = a ∨ t = b ∨ t = c ∨ t = d := fun t ht => by
    have := hpm.mem_iff.1 ht
    simpa using this
  have mx := mem x (by simp)
  have my := mem y (by simp)
  have mz := mem z (by simp)
  have mu := mem u (by simp)
  have hneg' : x < 0 := by simpa [rd] using hneg
  simp at hpw
  have hS2 : 1 ≤ x + y + z + u := by omega
  have hQ2 : 2 * (x * x + y * y + z * z + u * u) = (x + y + z + u) * (x + y + z + u) := by
    rw [show x + y + z + u = a + b + c + d by omega, ← hQ]
    omega
  have p01 := pair_pos hS2 hQ2 (.inl hneg')
  have p02 := pair_pos (a := x) (b := z) (c := y) (d := u) (by omega) (by grind) (.inl hneg')
  have p03 := pair_pos (a := x) (b := u) (c := y) (d := z) (by omega) (by grind) (.inl hneg')
  have hbq : ∀ t, t = a ∨ t = b ∨ t = c ∨ t = d → bq t := by
    rintro t (rfl | rfl | rfl | rfl) <;> assumption
  refine ⟨⟨quadB_iff.2 ⟨x, y, z, u, rfl, hbq x mx, hbq y my, hbq z mz, hbq u mu, by omega, hQ2⟩, ?_, by simp [sM]; omega, ?_⟩, x, y, z, u, rfl, hneg', by omega, by omega, by omega⟩
  · intro i k hi hk hne
    match i, k, hi, hk, hne with
    | 0, 1, _, _, _ => simp; omega
    | 0, 2, _, _, _ => simp; omega
    | 0, 3, _, _, _ => simp; omega
    | 1, 0, _, _, _ => simp; omega
    | 1, 2, _, _, _ => simp; omega
    | 1, 3, _, _, _ => simp; omega
    | 2, 0, _, _, _ => simp; omega
    | 2, 1, _, _, _ => simp; omega
    | 2, 3, _, _, _ => simp; omega
    | 3, 0, _, _, _ => simp; omega
    | 3, 1, _, _, _ => simp; omega
    | 3, 2, _, _, _ => simp; omega
    | 3, 3, _, _, h => exact absurd rfl h
  · intro j hj _
    match j, hj with
    | 0, _ => simp; omega
    | 1, _ => simp; omega
    | 2, _ => simp; omega
    | 3, _ => simp; omega
theorem packed_l {r : List Int} (hI : Inv 0 r (-1)) (a1 : Int) (h500 : a1 ≤ 500) (e : Nat) : ∀ (i : Nat) (out : List Int), i + e = 4 → out.length ≤ i → (out ≠ [] ∨ i = 0 ∧ r.getD 0 0 ≤ a1) →
    ∃ u : List Int, Ev (fun k => impl_packed.l0 k out r a1 (i : Int)) (sortI (out ++ ((r.drop i).filter (fun x => decide (x ≤ a1)) ++ u))) ∧ Ev (fun k => spec_apAll.l0 k a1 r out r 4 (i : Int)) (out ++ ((r.drop i).filter (fun x => decide (x ≤ a1)) ++ u), true) ∧ u.length ≤ 100000000000 ∧ ∀ x ∈ u, 1 ≤ x ∧ x ≤ a1 := by
  have hlen := quad_len hI.quad
  induction e with
  | zero =>
    intro i out hi ho hne
    obtain ⟨t, e1, e2, e3, e4⟩ := tree_ev hI a1 h500 out (by omega)
    have hd : r.drop i = [] := List.drop_eq_nil_of_le (by omega)
    have hne' : out ≠ [] := by
      rcases hne with h | h
      · exact h
      · omega
    refine ⟨t, ?_, ?_, e3, e4⟩
    · refine Ev.step (f := fun k => (impl_circles.f k out r (-1) a1).bind fun o => slices_Sort_int_int.f o) (fun k => ?_) ?_
      · simp only [impl_packed.l0]
        rw [if_neg (by omega)]
      · refine Ev.bind e1 ?_
        rw [hd]
        simp only [List.filter_nil, List.nil_append, slices_Sort_int_int.f]
        have h1 : 0 < (out ++ t).length := by
          have := List.length_pos_iff.2 hne'
          rw [List.length_append]; omega
        have h2 : (out ++ t).length < 4611686018427387904 := by rw [List.length_append]; omega
        rw [if_pos (by rw [decide_eq_true h1, decide_eq_true h2]; rfl)]
        exact Ev.now _
    · refine Ev.step (f := fun k => (spec_apTree.f k out r (-1) a1).bind fun t716 => (some (t716, true))) (fun k => ?_) ?_
      · simp only [spec_apAll.l0]
        rw [if_neg (by omega)]
      · refine Ev.bind e2 ?_
        rw [hd]
        simp only [List.filter_nil, List.nil_append]
        exact Ev.now _
  | succ e ih =>
    intro i out hi ho hne
    have hw : wrap64 ((i : Int) + 1) = ((i + 1 : Nat) : Int) := by rw [wrap_id (by omega) (by omega)]; omega
    have hrd : rd r (i : Int) = r.getD i 0 := rd_nat r i
    have hil : i < r.length := by omega
    have hdr : r.drop i = r.getD i 0 :: r.drop (i + 1) := by
      rw [List.drop_eq_getElem_cons hil]
      simp [List.getD_eq_getElem?_getD, List.getElem?_eq_getElem hil]
    by_cases hx : r.getD i 0 ≤ a1
    · obtain ⟨u, e1, e2, e3, e4⟩ := ih (i + 1) (out ++ [r.getD i 0]) (by omega) (by simp; omega) (.inl (by simp))
      have hf : (r.drop i).filter (fun x => decide (x ≤ a1)) = r.getD i 0 :: (r.drop (i + 1)).filter (fun x => decide (x ≤ a1)) := by
        rw [hdr, List.filter_cons_of_pos (by simpa using hx)]
      refine ⟨u, ?_, ?_, e3, e4⟩
      · rw [hf]
        refine Ev.step (f := fun k => impl_packed.l0 k (out ++ [r.getD i 0]) r a1 ((i + 1 : Nat) : Int)) (fun k => ?_) (by simpa using e1)
        simp only [impl_packed.l0]
        rw [if_pos (by omega), hrd, if_pos hx, if_pos (by omega), hw]
      · rw [hf]
        refine Ev.step (f := fun k => spec_apAll.l0 k a1 r (out ++ [r.getD i 0]) r 4 ((i + 1 : Nat) : Int)) (fun k => ?_) (by simpa using e2)
        simp only [spec_apAll.l0]
        rw [if_pos (by omega), if_pos (by omega), if_pos (by omega), hrd, if_pos hx, if_pos (by omega), hw]
    · have hne2 : out ≠ [] ∨ i + 1 = 0 ∧ r.getD 0 0 ≤ a1 := by
        rcases hne with h | ⟨h, h2⟩
        · exact .inl h
        · subst h; exact absurd h2 hx
      obtain ⟨u, e1, e2, e3, e4⟩ := ih (i + 1) out (by omega) (by omega) hne2
      have hf : (r.drop i).filter (fun x => decide (x ≤ a1)) = (r.drop (i + 1)).filter (fun x => decide (x ≤ a1)) := by
        rw [hdr, List.filter_cons_of_neg (by simpa using hx)]
      refine ⟨u, ?_, ?_, e3, e4⟩
      · rw [hf]
        refine Ev.step (f := fun k => impl_packed.l0 k out r a1 ((i + 1 : Nat) : Int)) (fun k => ?_) e1
        simp only [impl_packed.l0]
        rw [if_pos (by omega), hrd, if_neg hx, hw]
      · rw [hf]
        refine Ev.step (f := fun k => spec_apAll.l0 k a1 r out r 4 ((i + 1 : Nat) : Int)) (fun k => ?_) e2
        simp only [spec_apAll.l0]
        rw [if_pos (by omega), if_pos (by omega), if_pos (by omega), hrd, if_neg hx, hw]
/-- All curvatures, as both sides reckon them. -/
theorem all_ev (q : List Int) (a1 : Int) (hl : (q.length : Int) ≤ 9223372036854775806) :
    (Ev (fun k => spec_apAll.f k q a1) ([], false) ∧ Ev (fun k => impl_packed.f k q a1) ([], false)) ∨
    ∃ (x : Int) (rest : List Int), Ev (fun k => spec_apAll.f k q a1) (x :: rest, true) ∧ Ev (fun k => impl_packed.f k q a1) (sortI (x :: rest), true) ∧ x < 0 ∧ (∀ y ∈ rest, 1 ≤ y ∧ y ≤ a1) ∧ rest.length ≤ 200000000000 ∧ 1 ≤ a1 ∧ a1 ≤ 500 := by
  have hS := rootS_ev q hl
  have hR := rootI_ev q
  have hg := apGood_ev q hl
  have hin : ∀ b, inB 1 500 a1 = b → impl_within.f a1 1 500 = some b := fun b h => by rw [within_f, h]
  by_cases hq : quadB q = true
  · rw [hq] at hg
    cases hb : (rootR q).2 with
    | false =>
      refine .inl ⟨?_, ?_⟩
      · unfold spec_apAll.f
        refine Ev.bind hg ?_
        simp only [if_true, l1In_f, Option.bind_some]
        cases inB 1 500 a1 with
        | false =>
          refine Ev.step (fun _ => spec_apAll.j0.eq_2 ..) ?_
          simp only [Bool.not_false, if_true]
          exact Ev.now _
        | true =>
          refine Ev.step (fun _ => spec_apAll.j0.eq_2 ..) ?_
          simp only [Bool.not_true, Bool.false_eq_true, if_false]
          refine Ev.bind hS ?_
          simp only [hb, Bool.false_eq_true, if_false]
          refine Ev.step (fun _ => spec_apAll.j1.eq_2 ..) ?_
          simp only [if_true]
          exact Ev.now _
      · unfold impl_packed.f
        refine Ev.bind hR ?_
        simp only [hb, Bool.false_eq_true, if_false]
        exact Ev.now _
    | true =>
      have h4 : (rootR q).1.length = 4 := by
        unfold rootR at hb ⊢
        split at hb
        · rename_i h
          rw [if_pos h]
          simp only [sortI_len]
          exact quad_len (last_quad h)
        · cases hb
      have h0l : (0 : Int) < ((rootR q).1.length : Int) := by omega
      by_cases hneg : rd (rootR q).1 0 ≥ 0
      · refine .inl ⟨?_, ?_⟩
        · unfold spec_apAll.f
          refine Ev.bind hg ?_
          simp only [if_true, l1In_f, Option.bind_some]
          cases inB 1 500 a1 with
          | false =>
            refine Ev.step (fun _ => spec_apAll.j0.eq_2 ..) ?_
            simp only [Bool.not_false, if_true]
            exact Ev.now _
          | true =>
            refine Ev.step (fun _ => spec_apAll.j0.eq_2 ..) ?_
            simp only [Bool.not_true, Bool.false_eq_true, if_false]
            refine Ev.bind hS ?_
            simp only [hb, if_true, if_pos h0l, decide_eq_true hneg]
            refine Ev.step (fun _ => spec_apAll.j1.eq_2 ..) ?_
            simp only [if_true]
            exact Ev.now _
        · unfold impl_packed.f
          refine Ev.bind hR ?_
          simp only [hb, if_true, if_pos h0l, if_pos hneg]
          exact Ev.now _
      · by_cases hw : 1 ≤ a1 ∧ a1 ≤ 500
        · obtain ⟨hI, x, y, z, u, hx, n0, n1, n2, n3⟩ := root_inv hb (by omega)
          have h00 : (rootR q).1.getD 0 0 = x := by rw [hx]; rfl
          obtain ⟨t, e1, e2, e3, e4⟩ := packed_l hI a1 hw.2 4 0 [] rfl (Nat.le_refl _) (.inr ⟨rfl, by rw [h00]; omega⟩)
          have hf : ((rootR q).1.drop 0).filter (fun v => decide (v ≤ a1)) = x :: ([y, z, u] : List Int).filter (fun v => decide (v ≤ a1)) := by
            rw [List.drop_zero, hx, List.filter_cons_of_pos (by simp; omega)]
          rw [hf] at e1 e2
          refine .inr ⟨x, ([y, z, u] : List Int).filter (fun v => decide (v ≤ a1)) ++ t, ?_, ?_, n0, ?_, ?_, hw.1, hw.2⟩
          · unfold spec_apAll.f
            refine Ev.bind hg ?_
            simp only [if_true, l1In_f, Option.bind_some, inB_of hw]
            refine Ev.step (fun _ => spec_apAll.j0.eq_2 ..) ?_
            simp only [Bool.not_true, Bool.false_eq_true, if_false]
            refine Ev.bind hS ?_
            simp only [hb, if_true, if_pos h0l, decide_eq_false hneg]
            refine Ev.step (fun _ => spec_apAll.j1.eq_2 ..) ?_
            simp only [Bool.false_eq_true, if_false, h4]
            simpa using e2
          · unfold impl_packed.f
            refine Ev.bind hR ?_
            simp only [hb, if_true, if_pos h0l, if_neg hneg, hin true (inB_of hw), Option.bind_some]
            refine Ev.bind (a := sortI (x :: (([y, z, u] : List Int).filter (fun v => decide (v ≤ a1)) ++ t))) (by simpa using e1) ?_
            exact Ev.now _
          · intro v hv
            rcases List.mem_append.1 hv with hv | hv
            · rw [List.mem_filter] at hv
              obtain ⟨h1, h2⟩ := hv
              simp at h1 h2
              omega
            · exact e4 v hv
          · have := List.length_filter_le (fun v => decide (v ≤ a1)) ([y, z, u] : List Int)
            simp only [List.length_cons, List.length_nil] at this
            rw [List.length_append]
            omega
        · refine .inl ⟨?_, ?_⟩
          · unfold spec_apAll.f
            refine Ev.bind hg ?_
            simp only [if_true, l1In_f, Option.bind_some, inB_not hw]
            refine Ev.step (fun _ => spec_apAll.j0.eq_2 ..) ?_
            simp only [Bool.not_false, if_true]
            exact Ev.now _
          · unfold impl_packed.f
            refine Ev.bind hR ?_
            simp only [hb, if_true, if_pos h0l, if_neg hneg, hin false (inB_not hw), Option.bind_some, Bool.false_eq_true, if_false]
            exact Ev.now _
  · rw [Bool.eq_false_iff.2 hq] at hg
    have hr : rootR q = ([], false) := by
      unfold rootR pathR
      rw [if_neg (show ¬ (quadB q = true ∧ _) from fun h => hq h.1)]
      rfl
    refine .inl ⟨?_, ?_⟩
    · unfold spec_apAll.f
      refine Ev.bind hg ?_
      simp only [Bool.false_eq_true, if_false]
      refine Ev.step (fun _ => spec_apAll.j0.eq_2 ..) ?_
      simp only [if_true]
      exact Ev.now _
    · unfold impl_packed.f
      refine Ev.bind hR ?_
      rw [hr]
      simp only [Bool.false_eq_true, if_false]
      exact Ev.now _

end Go.Proofs.Ytmjodkckffmnaaa.P
