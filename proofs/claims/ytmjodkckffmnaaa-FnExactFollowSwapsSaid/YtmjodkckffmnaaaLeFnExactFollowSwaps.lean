import Derived.Test.YtmjodkckffmnaaaP1
import Derived.Test.YtmjodkckffmnaaaP2
import Derived.Test.YtmjodkckffmnaaaP3
import Derived.Test.YtmjodkckffmnaaaP4
import Derived.Test.YtmjodkckffmnaaaP5
import Derived.Test.YtmjodkckffmnaaaP6
import Derived.Test.YtmjodkckffmnaaaP7
namespace Go.Proofs.Ytmjodkckffmnaaa.P
open Go.RowKit Go.Proofs.YtmjodkckffmnaaaW.PrintWords Go.Proofs.YtmjodkckffmnaaaW.PrintLast Go.Proofs.YtmjodkckffmnaaaW.PrintMore
theorem wrap_id {x : Int} (h0 : -9223372036854775808 ≤ x) (h1 : x ≤ 9223372036854775807) : wrap64 x = x := by unfold wrap64; omega
theorem rdi_at {l : List Int} {i : Nat} (h : i < l.length) : rd l (i : Int) = l[i] := by simp [rd, List.getD_eq_getElem?_getD, List.getElem?_eq_getElem h]
theorem l1In_f (x lo hi : Int) : spec_l1In.f x lo hi = some (inB lo hi x) := by
  unfold spec_l1In.f inB
  by_cases h : x ≥ lo
  · rw [if_pos h]; simp [show lo ≤ x from h]
  · rw [if_neg h]; simp [show ¬ lo ≤ x from h]
theorem inB_iff {lo hi x : Int} : inB lo hi x = true ↔ lo ≤ x ∧ x ≤ hi := by simp [inB]
theorem Ev.all {α : Type} {f : Option α} {r : α} (h : f = some r) : Ev (fun _ => f) r := ⟨0, fun _ _ => h⟩
theorem Ev.from {α : Type} {g : Nat → Option α} {r : α} (K : Nat) (h : ∀ k, K < k → g k = some r) : Ev g r := ⟨K + 1, fun k hk => h k (by omega)⟩
theorem toIntS_l (d : Nat) : ∀ (i k : Nat) (l x : List Int), i + d = l.length → x.length = l.length → x.take i = l.take i → d < k → (l.length : Int) ≤ 9223372036854775806 → laws_toIntS.l0 k l x (i : Int) = some l := by
  induction d with
  | zero =>
    intro i k l x hi hx ht hk hl
    obtain ⟨k, rfl⟩ : ∃ m, k = m + 1 := ⟨k - 1, by omega⟩
    simp only [laws_toIntS.l0]
    rw [if_neg (by omega)]
    rw [List.take_of_length_le (by omega), List.take_of_length_le (by omega)] at ht
    rw [ht]
  | succ d ih =>
    intro i k l x hi hx ht hk hl
    obtain ⟨k, rfl⟩ : ∃ m, k = m + 1 := ⟨k - 1, by omega⟩
    simp only [laws_toIntS.l0]
    rw [if_pos (by omega), if_pos (by omega), if_pos (by omega), wrap_id (by omega) (by omega)]
    have hr : rd l (i : Int) = l[i]'(by omega) := rdi_at (by omega)
    have := ih (i + 1) k l (x.set i (rd l (i : Int))) (by omega) (by simpa using hx) ?_ (by omega) hl
    · simp only [Int.toNat_natCast]
      rw [show ((i : Int) + 1) = ((i + 1 : Nat) : Int) by omega]
      exact this
    · rw [List.take_succ_eq_append_getElem (by simp; omega), List.take_succ_eq_append_getElem (by omega), List.take_set, List.set_eq_of_length_le (by simp; omega), ht]
      simp [hr]
theorem toIntS_f (l : List Int) (hl : l.length ≤ 35184372088832) (k : Nat) (hk : l.length < k) : laws_toIntS.f k l = some l := by
  unfold laws_toIntS.f
  rw [if_pos (by omega), if_pos (by omega)]
  exact toIntS_l l.length 0 k l _ (by omega) (by simp) (by simp) hk (by omega)
theorem toIntS_ev (l : List Int) (hl : l.length ≤ 35184372088832) : Ev (fun k => laws_toIntS.f k l) l := Ev.from l.length (fun k hk => toIntS_f l hl k hk)
theorem eqIntS_ev (l : List Int) (hl : (l.length : Int) ≤ 9223372036854775806) : Ev (fun k => laws_eqIntS.f k l l) true := Ev.from l.length (fun k hk => eqIntS_refl l hl k hk)

theorem l1All_l (lo hi : Int) (l : List Int) (hl : (l.length : Int) ≤ 9223372036854775806) (d : Nat) : ∀ (i k : Nat), i + d = l.length → d < k → spec_l1All.l0 k lo hi l (l.length : Int) (i : Int) = some ((l.drop i).all (inB lo hi)) := by
  induction d with
  | zero =>
    intro i k hi' hk
    obtain ⟨k, rfl⟩ : ∃ m, k = m + 1 := ⟨k - 1, by omega⟩
    simp only [spec_l1All.l0]
    rw [if_neg (by omega), List.drop_of_length_le (by omega)]
    rfl
  | succ d ih =>
    intro i k hi' hk
    obtain ⟨k, rfl⟩ : ∃ m, k = m + 1 := ⟨k - 1, by omega⟩
    have hil : i < l.length := by omega
    simp only [spec_l1All.l0]
    rw [if_pos (by omega), if_pos (by omega), if_pos (by omega), l1In_f, rdi_at hil, wrap_id (by omega) (by omega)]
    simp only [Option.bind_some]
    rw [List.drop_eq_getElem_cons hil, List.all_cons]
    cases inB lo hi l[i] with
    | false => simp
    | true =>
      simp only [if_true, Bool.true_and]
      exact ih (i + 1) k (by omega) (by omega)
theorem l1All_ev (lo hi : Int) (l : List Int) (hl : (l.length : Int) ≤ 9223372036854775806) : Ev (fun k => spec_l1All.f k l lo hi) (l.all (inB lo hi)) :=
  Ev.from l.length (fun k hk => by
    have := l1All_l lo hi l hl l.length 0 k (by omega) hk
    simpa [spec_l1All.f] using this)

theorem markIntS_ev (l : List Int) (hl : (l.length : Int) ≤ 4611686018427387904) : Ev (fun k => laws_markIntS.f k l 1) (1 + (l.length : Int), mkI 1 l.length) := Ev.from l.length (fun k hk => markIntS_f l 1 k hk (by omega) (by omega) (by omega))
theorem heldIntS_ev (n : Nat) (hn : (n : Int) ≤ 4611686018427387904) : Ev (fun k => laws_heldIntS.f k (mkI 1 n) 1) (1 + (n : Int)) := Ev.from n (fun k hk => heldIntS_f 1 n k hk (by omega) (by omega) (by omega))

def bq (x : Int) : Prop := -100000 ≤ x ∧ x ≤ 100000
theorem sqb {a b A B : Int} (h0 : -A ≤ a) (h1 : a ≤ A) (h2 : -B ≤ b) (h3 : b ≤ B) : -(A * B) ≤ a * b ∧ a * b ≤ A * B := by
  have p1 := Int.mul_nonneg (show 0 ≤ A - a by omega) (show 0 ≤ B + b by omega)
  have p2 := Int.mul_nonneg (show 0 ≤ A + a by omega) (show 0 ≤ B - b by omega)
  have p3 := Int.mul_nonneg (show 0 ≤ A - a by omega) (show 0 ≤ B - b by omega)
  have p4 := Int.mul_nonneg (show 0 ≤ A + a by omega) (show 0 ≤ B + b by omega)
  constructor <;> grind
def form4 (a b c d : Int) : Bool := decide (a + b + c + d > 0) && (2 * (a * a + b * b + c * c + d * d) == (a + b + c + d) * (a + b + c + d))
def quadB (l : List Int) : Bool := (decide (l.length = 4) && l.all (inB (-100000) 100000)) && match l with
  | [a, b, c, d] => form4 a b c d
  | _ => false
theorem four {l : List Int} (h : l.length = 4) : ∃ a b c d, l = [a, b, c, d] := by
  match l, h with
  | [a, b, c, d], _ => exact ⟨a, b, c, d, rfl⟩
theorem quadB_iff {l : List Int} : quadB l = true ↔ ∃ a b c d, l = [a, b, c, d] ∧ bq a ∧ bq b ∧ bq c ∧ bq d ∧ a + b + c + d > 0 ∧ 2 * (a * a + b * b + c * c + d * d) = (a + b + c + d) * (a + b + c + d) := by
  constructor
  · intro h
    simp only [quadB, Bool.and_eq_true, decide_eq_true_eq] at h
    obtain ⟨a, b, c, d, rfl⟩ := four h.1.1
    simp only [List.all_cons, List.all_nil, Bool.and_true, Bool.and_eq_true, inB_iff, form4, decide_eq_true_eq, beq_iff_eq] at h
    exact ⟨a, b, c, d, rfl, h.1.2.1, h.1.2.2.1, h.1.2.2.2.1, h.1.2.2.2.2, h.2.1, h.2.2⟩
  · rintro ⟨a, b, c, d, rfl, h0, h1, h2, h3, h4, h5⟩
    simp only [quadB, Bool.and_eq_true, decide_eq_true_eq, List.all_cons, List.all_nil, Bool.and_true, inB_iff, form4, beq_iff_eq, List.length_cons, List.length_nil]
    exact ⟨⟨trivial, h0, h1, h2, h3⟩, h4, h5⟩
theorem r40 (a b c d : Int) : rd [a, b, c, d] 0 = a := Eq.trans rfl rfl
theorem r41 (a b c d : Int) : rd [a, b, c, d] 1 = b := Eq.trans rfl rfl
theorem r42 (a b c d : Int) : rd [a, b, c, d] 2 = c := Eq.trans rfl rfl
theorem r43 (a b c d : Int) : rd [a, b, c, d] 3 = d := Eq.trans rfl rfl
theorem w01 : wrap64 (0 + 1) = 1 := wrap_id (x := 0 + 1) (by decide) (by decide)
theorem w12 : wrap64 (1 + 1) = 2 := wrap_id (x := 1 + 1) (by decide) (by decide)
theorem w23 : wrap64 (2 + 1) = 3 := wrap_id (x := 2 + 1) (by decide) (by decide)
theorem w34 : wrap64 (3 + 1) = 4 := wrap_id (x := 3 + 1) (by decide) (by decide)
theorem i04 : (0 : Int) < 4 := by decide
theorem i14 : (1 : Int) < 4 := by decide
theorem i24 : (2 : Int) < 4 := by decide
theorem i34 : (3 : Int) < 4 := by decide
theorem i44 : ¬ (4 : Int) < 4 := by decide
theorem i00 : (0 : Int) ≤ 0 := by decide
theorem i01 : (0 : Int) ≤ 1 := by decide
theorem i02 : (0 : Int) ≤ 2 := by decide
theorem i03 : (0 : Int) ≤ 3 := by decide
theorem len4 (a b c d : Int) : (([a, b, c, d] : List Int).length : Int) = 4 := rfl
theorem sums {a b c d : Int} (h0 : bq a) (h1 : bq b) (h2 : bq c) (h3 : bq d) :
    (0 ≤ a * a ∧ a * a ≤ 10000000000) ∧ (0 ≤ b * b ∧ b * b ≤ 10000000000) ∧ (0 ≤ c * c ∧ c * c ≤ 10000000000) ∧ (0 ≤ d * d ∧ d * d ≤ 10000000000) ∧ -160000000000 ≤ (a + b + c + d) * (a + b + c + d) ∧ (a + b + c + d) * (a + b + c + d) ≤ 160000000000 := by
  unfold bq at *
  have nn : ∀ x : Int, 0 ≤ x * x := fun x => by
    rcases Int.le_total 0 x with h | h
    · exact Int.mul_nonneg h h
    · have := Int.mul_nonneg (show 0 ≤ -x by omega) (show 0 ≤ -x by omega); grind
  refine ⟨⟨nn a, (sqb (A := 100000) (B := 100000) (by omega) h0.2 (by omega) h0.2).2⟩, ⟨nn b, (sqb (A := 100000) (B := 100000) (by omega) h1.2 (by omega) h1.2).2⟩, ⟨nn c, (sqb (A := 100000) (B := 100000) (by omega) h2.2 (by omega) h2.2).2⟩, ⟨nn d, (sqb (A := 100000) (B := 100000) (by omega) h3.2 (by omega) h3.2).2⟩, ?_⟩
  exact sqb (A := 400000) (B := 400000) (by omega) (by omega) (by omega) (by omega)
theorem apGood_l {a b c d : Int} (h0 : bq a) (h1 : bq b) (h2 : bq c) (h3 : bq d) (k : Nat) : spec_apGood.l0 (k + 5) 0 0 [a, b, c, d] 4 0 = some (form4 a b c d) := by
  obtain ⟨s0, s1, s2, s3, s4⟩ := sums h0 h1 h2 h3
  unfold bq at h0 h1 h2 h3
  simp only [spec_apGood.l0, len4, r40, r41, r42, r43, w01, w12, w23, w34, if_pos i04, if_pos i14, if_pos i24, if_pos i34, if_neg i44, if_pos i00, if_pos i01, if_pos i02, if_pos i03]
  rw [Int.zero_add, Int.zero_add, wrap_id (x := a) (by omega) (by omega), wrap_id (x := a * a) (by omega) (by omega), wrap_id (x := a * a) (by omega) (by omega), wrap_id (x := b * b) (by omega) (by omega), wrap_id (x := c * c) (by omega) (by omega), wrap_id (x := d * d) (by omega) (by omega), wrap_id (x := a + b) (by omega) (by omega), wrap_id (x := a + b + c) (by omega) (by omega), wrap_id (x := a + b + c + d) (by omega) (by omega), wrap_id (x := a * a + b * b) (by omega) (by omega), wrap_id (x := a * a + b * b + c * c) (by omega) (by omega), wrap_id (x := a * a + b * b + c * c + d * d) (by omega) (by omega), wrap_id (x := 2 * (a * a + b * b + c * c + d * d)) (by omega) (by omega), wrap_id (x := (a + b + c + d) * (a + b + c + d)) (by omega) (by omega)]
  unfold form4
  by_cases h : a + b + c + d > 0
  · rw [if_pos h, decide_eq_true h, Bool.true_and]
  · rw [if_neg h, decide_eq_false h, Bool.false_and]
theorem apGood_ev (l : List Int) (hl : (l.length : Int) ≤ 9223372036854775806) : Ev (fun k => spec_apGood.f k l) (quadB l) := by
  have j0 : ∀ x, Ev (fun k => spec_apGood.j0 k x true) false := fun x => Ev.from 0 (fun k hk => by
    obtain ⟨k, rfl⟩ : ∃ m, k = m + 1 := ⟨k - 1, by omega⟩
    simp [spec_apGood.j0])
  unfold spec_apGood.f quadB
  by_cases h : l.length = 4
  · have ha := l1All_ev (-100000) 100000 l hl
    simp only [if_pos (show (l.length : Int) = 4 by omega), decide_eq_true h, Bool.true_and]
    refine Ev.bind ha ?_
    cases hb : l.all (inB (-100000) 100000) with
    | false => simp only [Bool.not_false, Bool.false_and]; exact j0 l
    | true =>
      obtain ⟨a, b, c, d, rfl⟩ := four h
      simp only [List.all_cons, List.all_nil, Bool.and_true, Bool.and_eq_true, inB_iff] at hb
      simp only [Bool.not_true, Bool.true_and]
      refine Ev.from 10 (fun k hk => ?_)
      obtain ⟨k, rfl⟩ : ∃ m, k = m + 6 := ⟨k - 6, by omega⟩
      simp only [spec_apGood.j0, Bool.false_eq_true, if_false]
      exact apGood_l hb.1 hb.2.1 hb.2.2.1 hb.2.2.2 k
  · simp only [if_neg (show ¬ (l.length : Int) = 4 by omega), decide_eq_false h, Bool.false_and]
    exact j0 l
theorem sumOf_l {a b c d : Int} (h0 : bq a) (h1 : bq b) (h2 : bq c) (h3 : bq d) (k : Nat) : impl_sumOf.f (k + 5) [a, b, c, d] = some (a + b + c + d) := by
  unfold bq at h0 h1 h2 h3
  unfold impl_sumOf.f
  simp only [impl_sumOf.l0, len4, r40, r41, r42, r43, w01, w12, w23, w34, if_pos i04, if_pos i14, if_pos i24, if_pos i34, if_neg i44, if_pos i00, if_pos i01, if_pos i02, if_pos i03]
  rw [Int.zero_add, wrap_id (x := a) (by omega) (by omega), wrap_id (x := a + b) (by omega) (by omega), wrap_id (x := a + b + c) (by omega) (by omega), wrap_id (x := a + b + c + d) (by omega) (by omega)]
theorem dot_l {a b c d : Int} (h0 : bq a) (h1 : bq b) (h2 : bq c) (h3 : bq d) (k : Nat) : impl_dot.f (k + 5) [a, b, c, d] [a, b, c, d] = some (a * a + b * b + c * c + d * d) := by
  obtain ⟨s0, s1, s2, s3, s4⟩ := sums h0 h1 h2 h3
  unfold impl_dot.f
  simp only [impl_dot.l0, len4, r40, r41, r42, r43, w01, w12, w23, w34, if_pos i04, if_pos i14, if_pos i24, if_pos i34, if_neg i44, if_pos i00, if_pos i01, if_pos i02, if_pos i03]
  rw [Int.zero_add, wrap_id (x := a * a) (by omega) (by omega), wrap_id (x := a * a) (by omega) (by omega), wrap_id (x := b * b) (by omega) (by omega), wrap_id (x := c * c) (by omega) (by omega), wrap_id (x := d * d) (by omega) (by omega), wrap_id (x := a * a + b * b) (by omega) (by omega), wrap_id (x := a * a + b * b + c * c) (by omega) (by omega), wrap_id (x := a * a + b * b + c * c + d * d) (by omega) (by omega)]
theorem isQuad_ev (l : List Int) : Ev (fun k => impl_IsQuad.f k l) (quadB l) := by
  have j0 : ∀ x, Ev (fun k => impl_IsQuad.j0 k x true) false := fun x => Ev.from 0 (fun k hk => by
    obtain ⟨k, rfl⟩ : ∃ m, k = m + 1 := ⟨k - 1, by omega⟩
    simp [impl_IsQuad.j0])
  unfold impl_IsQuad.f impl_allWithin.f quadB
  by_cases h : l.length = 4
  · simp only [if_pos (show (l.length : Int) = 4 by omega), decide_eq_true h, Bool.true_and, Option.bind_some]
    cases hb : l.all (inB (-100000) 100000) with
    | false => simp only [Bool.not_false, Bool.false_and]; exact j0 l
    | true =>
      obtain ⟨a, b, c, d, rfl⟩ := four h
      simp only [List.all_cons, List.all_nil, Bool.and_true, Bool.and_eq_true, inB_iff] at hb
      simp only [Bool.not_true, Bool.true_and]
      refine Ev.from 10 (fun k hk => ?_)
      obtain ⟨k, rfl⟩ : ∃ m, k = m + 6 := ⟨k - 6, by omega⟩
      simp only [impl_IsQuad.j0, Bool.false_eq_true, if_false]
      rw [sumOf_l hb.1 hb.2.1 hb.2.2.1 hb.2.2.2 k, dot_l hb.1 hb.2.1 hb.2.2.1 hb.2.2.2 k]
      obtain ⟨s0, s1, s2, s3, s4⟩ := sums hb.1 hb.2.1 hb.2.2.1 hb.2.2.2
      simp only [Option.bind_some]
      rw [wrap_id (x := 2 * (a * a + b * b + c * c + d * d)) (by omega) (by omega), wrap_id (x := (a + b + c + d) * (a + b + c + d)) (by omega) (by omega)]
      unfold form4
      by_cases h : a + b + c + d > 0
      · rw [if_pos h, decide_eq_true h, Bool.true_and]
      · rw [if_neg h, decide_eq_false h, Bool.false_and]
  · simp only [if_neg (show ¬ (l.length : Int) = 4 by omega), decide_eq_false h, Bool.false_and]
    exact j0 l

theorem sq_nn (x : Int) : 0 ≤ x * x := by
  rcases Int.le_total 0 x with h | h
  · exact Int.mul_nonneg h h
  · have := Int.mul_nonneg (show 0 ≤ -x by omega) (show 0 ≤ -x by omega); grind
theorem swap_pos {x y z : Int} (h1 : x + y > 0) (h2 : 2 * (x * x + z) = (x + y) * (x + y)) (h3 : y * y ≤ 3 * z) : 3 * y - x > 0 := by
  rcases Int.lt_or_le 0 (3 * y - x) with h | h
  · exact h
  · obtain ⟨t, ht⟩ : ∃ t, t = x - 3 * y := ⟨_, rfl⟩
    have hx : x = 3 * y + t := by omega
    have ht0 : 0 ≤ t := by omega
    subst hx
    have key : 8 * (y * y) + 12 * (y * t) + 3 * (t * t) ≤ 0 := by grind
    have n1 := sq_nn y
    have n2 := sq_nn t
    rcases Int.lt_or_le y 0 with hy | hy
    · have n3 := Int.mul_nonneg ht0 (show 0 ≤ 4 * y + t by omega)
      have n4 : 0 < y * y := by
        have := Int.mul_pos (show 0 < -y by omega) (show 0 < -y by omega); grind
      grind
    · have n3 := Int.mul_nonneg hy ht0
      have n5 : y * y = 0 := by omega
      have n6 : t * t = 0 := by omega
      have n7 : y = 0 := by
        rcases Int.mul_eq_zero.1 n5 with h | h <;> exact h
      have n8 : t = 0 := by
        rcases Int.mul_eq_zero.1 n6 with h | h <;> exact h
      omega
theorem three_sq (b c d : Int) : (b + c + d) * (b + c + d) ≤ 3 * (b * b + c * c + d * d) := by
  have h1 := sq_nn (b - c)
  have h2 := sq_nn (b - d)
  have h3 := sq_nn (c - d)
  grind
theorem swap_form {x b c d : Int} (h1 : x + b + c + d > 0) (h2 : 2 * (x * x + b * b + c * c + d * d) = (x + b + c + d) * (x + b + c + d)) :
    (2 * (b + c + d) - x) + b + c + d > 0 ∧ 2 * ((2 * (b + c + d) - x) * (2 * (b + c + d) - x) + b * b + c * c + d * d) = ((2 * (b + c + d) - x) + b + c + d) * ((2 * (b + c + d) - x) + b + c + d) := by
  constructor
  · have := swap_pos (x := x) (y := b + c + d) (z := b * b + c * c + d * d) (by omega) (by grind) (three_sq b c d)
    omega
  · grind
/-- the quad behind a swap -/
def swl (l : List Int) (i : Nat) : List Int := l.set i (2 * (l.sum - l.getD i 0) - l.getD i 0)
theorem swl0 (a b c d : Int) : swl [a, b, c, d] 0 = [2 * (b + c + d) - a, b, c, d] := by
  simp [swl]; omega
theorem swl1 (a b c d : Int) : swl [a, b, c, d] 1 = [a, 2 * (a + c + d) - b, c, d] := by
  simp [swl]; omega
theorem swl2 (a b c d : Int) : swl [a, b, c, d] 2 = [a, b, 2 * (a + b + d) - c, d] := by
  simp [swl]; omega
theorem swl3 (a b c d : Int) : swl [a, b, c, d] 3 = [a, b, c, 2 * (a + b + c) - d] := by
  simp [swl]; omega
theorem quad_swl {l : List Int} (hq : quadB l = true) {i : Nat} (hi : i < 4) : quadB (swl l i) = inB (-100000) 100000 ((swl l i).getD i 0) := by
  obtain ⟨a, b, c, d, rfl, h0, h1, h2, h3, h4, h5⟩ := quadB_iff.1 hq
  rw [Bool.eq_iff_iff, quadB_iff, inB_iff]
  match i, hi with
  | 0, _ =>
    rw [swl0]
    constructor
    · rintro ⟨a', b', c', d', e, q, _⟩
      simp only [List.cons.injEq] at e
      obtain ⟨rfl, _⟩ := e
      exact q
    · intro q
      have := swap_form (x := a) (b := b) (c := c) (d := d) (by omega) (by grind)
      exact ⟨_, _, _, _, rfl, q, h1, h2, h3, by omega, by grind⟩
  | 1, _ =>
    rw [swl1]
    constructor
    · rintro ⟨a', b', c', d', e, _, q, _⟩
      simp only [List.cons.injEq] at e
      obtain ⟨_, rfl, _⟩ := e
      exact q
    · intro q
      have := swap_form (x := b) (b := a) (c := c) (d := d) (by omega) (by grind)
      exact ⟨_, _, _, _, rfl, h0, q, h2, h3, by omega, by grind⟩
  | 2, _ =>
    rw [swl2]
    constructor
    · rintro ⟨a', b', c', d', e, _, _, q, _⟩
      simp only [List.cons.injEq] at e
      obtain ⟨_, _, rfl, _⟩ := e
      exact q
    · intro q
      have := swap_form (x := c) (b := a) (c := b) (d := d) (by omega) (by grind)
      exact ⟨_, _, _, _, rfl, h0, h1, q, h3, by omega, by grind⟩
  | 3, _ =>
    rw [swl3]
    constructor
    · rintro ⟨a', b', c', d', e, _, _, _, q, _⟩
      simp only [List.cons.injEq] at e
      obtain ⟨_, _, _, rfl, _⟩ := e
      exact q
    · intro q
      have := swap_form (x := d) (b := a) (c := b) (d := c) (by omega) (by grind)
      exact ⟨_, _, _, _, rfl, h0, h1, h2, q, by omega, by grind⟩
  | (i + 4), h => omega
theorem swl_length (l : List Int) (i : Nat) : (swl l i).length = l.length := by simp [swl]
theorem rd_nat (l : List Int) (i : Nat) : rd l (i : Int) = l.getD i 0 := by simp [rd]
theorem bq_get {a b c d : Int} (h0 : bq a) (h1 : bq b) (h2 : bq c) (h3 : bq d) {i : Nat} (hi : i < 4) : bq (([a, b, c, d] : List Int).getD i 0) := by
  match i, hi with
  | 0, _ => exact h0
  | 1, _ => exact h1
  | 2, _ => exact h2
  | 3, _ => exact h3
theorem apSwap_f {l : List Int} (hq : quadB l = true) {i : Nat} (hi : i < 4) : spec_apSwap.f l (i : Int) = some (swl l i) := by
  obtain ⟨a, b, c, d, rfl, h0, h1, h2, h3, h4, h5⟩ := quadB_iff.1 hq
  have hg := bq_get h0 h1 h2 h3 hi
  unfold bq at h0 h1 h2 h3 hg
  unfold spec_apSwap.f spec_l1Own.f spec_apSum.f
  simp only [Option.bind_some, List.length_nil, List.nil_append, len4, r40, r41, r42, r43, if_pos i04, if_pos i14, if_pos i24, if_pos i34]
  rw [if_pos (by simp)]
  simp only [Option.bind_some, len4]
  rw [if_pos (by omega), if_pos (by omega), rd_nat]
  have hs : ([a, b, c, d] : List Int).sum = a + b + c + d := by simp; omega
  unfold swl
  rw [hs]
  generalize ([a, b, c, d] : List Int).getD i 0 = x at *
  rw [wrap_id (x := a + b) (by omega) (by omega), wrap_id (x := a + b + c) (by omega) (by omega), wrap_id (x := a + b + c + d) (by omega) (by omega), wrap_id (x := a + b + c + d - x) (by omega) (by omega), wrap_id (x := 2 * (a + b + c + d - x)) (by omega) (by omega), wrap_id (x := 2 * (a + b + c + d - x) - x) (by omega) (by omega)]
  simp only [if_pos (show (i : Int) < 4 by omega), Int.toNat_natCast]
theorem swapped_ev {l : List Int} (hq : quadB l = true) {i : Nat} (hi : i < 4) : Ev (fun k => impl_swapped.f k l (i : Int)) (swl l i) := by
  obtain ⟨a, b, c, d, rfl, h0, h1, h2, h3, h4, h5⟩ := quadB_iff.1 hq
  have hg := bq_get h0 h1 h2 h3 hi
  have hsum : Ev (fun k => impl_sumOf.f k [a, b, c, d]) (a + b + c + d) := Ev.from 5 (fun k hk => by
    obtain ⟨k, rfl⟩ : ∃ m, k = m + 5 := ⟨k - 5, by omega⟩
    exact sumOf_l h0 h1 h2 h3 k)
  unfold bq at h0 h1 h2 h3 hg
  unfold impl_swapped.f slices_Clone_int_int_80.f
  simp only [if_pos (show ([a, b, c, d] : List Int).length < 17592186044416 by simp), Option.bind_some, len4]
  refine Ev.bind hsum ?_
  rw [if_pos (by omega), if_pos (by omega), rd_nat]
  have hs : ([a, b, c, d] : List Int).sum = a + b + c + d := by simp; omega
  unfold swl
  rw [hs]
  generalize ([a, b, c, d] : List Int).getD i 0 = x at *
  rw [wrap_id (x := a + b + c + d - x) (by omega) (by omega), wrap_id (x := 2 * (a + b + c + d - x)) (by omega) (by omega), wrap_id (x := 2 * (a + b + c + d - x) - x) (by omega) (by omega)]
  simp only [if_pos (show (i : Int) < 4 by omega), Int.toNat_natCast]
  exact Ev.now _
/-- a swap that stays within bounds -/
theorem swap_ev {l : List Int} (hq : quadB l = true) {i : Nat} (hi : i < 4) : Ev (fun k => impl_swap.f k l (i : Int)) (if quadB (swl l i) = true then (swl l i, true) else ([], false)) := by
  have h4 : l.length = 4 := by
    obtain ⟨a, b, c, d, rfl, _⟩ := quadB_iff.1 hq
    rfl
  unfold impl_swap.f
  refine Ev.bind (swapped_ev hq hi) ?_
  simp only [swl_length, h4, within_f, Option.bind_some, rd_nat]
  rw [if_pos (by omega), if_pos (by omega), quad_swl hq hi]
  cases inB (-100000) 100000 ((swl l i).getD i 0) with
  | true => simp only [if_true]; exact Ev.now _
  | false => simp only [Bool.false_eq_true, if_false]; exact Ev.now _

end Go.Proofs.Ytmjodkckffmnaaa.P
