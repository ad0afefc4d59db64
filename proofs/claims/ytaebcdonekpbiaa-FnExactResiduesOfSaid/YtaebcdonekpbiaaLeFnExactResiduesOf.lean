import Derived.Test.YtaebcdonekpbiaaP0
import Derived.Test.YtaebcdonekpbiaaP1
import Derived.Test.YtaebcdonekpbiaaP2
import Derived.Test.YtaebcdonekpbiaaP3
import Derived.Test.YtaebcdonekpbiaaP4
import Derived.Test.YtaebcdonekpbiaaP5
import Derived.Test.YtaebcdonekpbiaaP6
import Derived.Test.YtaebcdonekpbiaaP7
import Derived.Test.YtaebcdonekpbiaaP8
import Derived.Test.YtaebcdonekpbiaaP9
namespace Go.Proofs.Ytaebcdonekpbiaa.P
open Go.RowKit Go.Proofs.YtaebcdonekpbiaaW.PrintWords Go.Proofs.YtaebcdonekpbiaaW.PrintLast Go.Proofs.YtaebcdonekpbiaaW.PrintMore
theorem wrap_id {x : Int} (h0 : -9223372036854775808 ≤ x) (h1 : x ≤ 9223372036854775807) : wrap64 x = x := by unfold wrap64; omega
theorem rdi_at {l : List Int} {i : Nat} (h : i < l.length) : rd l (i : Int) = l[i] := by simp [rd, List.getD_eq_getElem?_getD, List.getElem?_eq_getElem h]
theorem l1In_f (x lo hi : Int) : spec_l1In.f x lo hi = some (inB lo hi x) := by
  unfold spec_l1In.f inB
  by_cases h : x ≥ lo
  · rw [if_pos h]; simp [show lo ≤ x from h]
  · rw [if_neg h]; simp [show ¬ lo ≤ x from h]
theorem inB_iff {lo hi x : Int} : inB lo hi x = true ↔ lo ≤ x ∧ x ≤ hi := by simp [inB]
theorem Ev.all {α : Type} {f : Option α} {r : α} (h : f = some r) : Ev (fun _ => f) r := ⟨0, fun _ _ => h⟩
theorem Ev.from {α : Type} {g : Nat → Option α} {r : α} (K : Nat) (h : ∀ k, K < k → g k = some r) : Ev g r := ⟨K + 1, fun k hk => h k (by omega)⟩
theorem toIntS_l (d : Nat) : ∀ (i k : Nat) (l x : List Int), i + d = l.length → x.length = l.length → x.take i = l.take i → d < k → (l.length : Int) ≤ 9223372036854775806 → laws_toIntS.l0 k l x (i : Int) = some l := by
  induction d with
  | zero =>
    intro i k l x hi hx ht hk hl
    obtain ⟨k, rfl⟩ : ∃ m, k = m + 1 := ⟨k - 1, by omega⟩
    simp only [laws_toIntS.l0]
    rw [if_neg (by omega)]
    rw [List.take_of_length_le (by omega), List.take_of_length_le (by omega)] at ht
    rw [ht]
  | succ d ih =>
    intro i k l x hi hx ht hk hl
    obtain ⟨k, rfl⟩ : ∃ m, k = m + 1 := ⟨k - 1, by omega⟩
    simp only [laws_toIntS.l0]
    rw [if_pos (by omega), if_pos (by omega), if_pos (by omega), wrap_id (by omega) (by omega)]
    have hr : rd l (i : Int) = l[i]'(by omega) := rdi_at (by omega)
    have := ih (i + 1) k l (x.set i (rd l (i : Int))) (by omega) (by simpa using hx) ?_ (by omega) hl
    · simp only [Int.toNat_natCast]
      rw [show ((i : Int) + 1) = ((i + 1 : Nat) : Int) by omega]
      exact this
    · rw [List.take_succ_eq_append_getElem (by simp; omega), List.take_succ_eq_append_getElem (by omega), List.take_set, List.set_eq_of_length_le (by simp; omega), ht]
      simp [hr]
theorem toIntS_f (l : List Int) (hl : l.length ≤ 35184372088832) (k : Nat) (hk : l.length < k) : laws_toIntS.f k l = some l := by
  unfold laws_toIntS.f
  rw [if_pos (by omega), if_pos (by omega)]
  exact toIntS_l l.length 0 k l _ (by omega) (by simp) (by simp) hk (by omega)
theorem toIntS_ev (l : List Int) (hl : l.length ≤ 35184372088832) : Ev (fun k => laws_toIntS.f k l) l := Ev.from l.length (fun k hk => toIntS_f l hl k hk)
theorem eqIntS_ev (l : List Int) (hl : (l.length : Int) ≤ 9223372036854775806) : Ev (fun k => laws_eqIntS.f k l l) true := Ev.from l.length (fun k hk => eqIntS_refl l hl k hk)

theorem l1All_l (lo hi : Int) (l : List Int) (hl : (l.length : Int) ≤ 9223372036854775806) (d : Nat) : ∀ (i k : Nat), i + d = l.length → d < k → spec_l1All.l0 k lo hi l (l.length : Int) (i : Int) = some ((l.drop i).all (inB lo hi)) := by
  induction d with
  | zero =>
    intro i k hi' hk
    obtain ⟨k, rfl⟩ : ∃ m, k = m + 1 := ⟨k - 1, by omega⟩
    simp only [spec_l1All.l0]
    rw [if_neg (by omega), List.drop_of_length_le (by omega)]
    rfl
  | succ d ih =>
    intro i k hi' hk
    obtain ⟨k, rfl⟩ : ∃ m, k = m + 1 := ⟨k - 1, by omega⟩
    have hil : i < l.length := by omega
    simp only [spec_l1All.l0]
    rw [if_pos (by omega), if_pos (by omega), if_pos (by omega), l1In_f, rdi_at hil, wrap_id (by omega) (by omega)]
    simp only [Option.bind_some]
    rw [List.drop_eq_getElem_cons hil, List.all_cons]
    cases inB lo hi l[i] with
    | false => simp
    | true =>
      simp only [if_true, Bool.true_and]
      exact ih (i + 1) k (by omega) (by omega)
theorem l1All_ev (lo hi : Int) (l : List Int) (hl : (l.length : Int) ≤ 9223372036854775806) : Ev (fun k => spec_l1All.f k l lo hi) (l.all (inB lo hi)) :=
  Ev.from l.length (fun k hk => by
    have := l1All_l lo hi l hl l.length 0 k (by omega) hk
    simpa [spec_l1All.f] using this)

theorem markIntS_ev (l : List Int) (hl : (l.length : Int) ≤ 4611686018427387904) : Ev (fun k => laws_markIntS.f k l 1) (1 + (l.length : Int), mkI 1 l.length) := Ev.from l.length (fun k hk => markIntS_f l 1 k hk (by omega) (by omega) (by omega))
theorem heldIntS_ev (n : Nat) (hn : (n : Int) ≤ 4611686018427387904) : Ev (fun k => laws_heldIntS.f k (mkI 1 n) 1) (1 + (n : Int)) := Ev.from n (fun k hk => heldIntS_f 1 n k hk (by omega) (by omega) (by omega))

theorem natAbs_tmod_ (a b : Int) : (Int.tmod a b).natAbs = a.natAbs % b.natAbs := Int.natAbs_tmod a b
theorem gcd_step (x y : Nat) : Nat.gcd y (x % y) = Nat.gcd x y := by rw [Nat.gcd_comm x y, Nat.gcd_rec y x, Nat.gcd_comm (x % y) y]
theorem foGcdZ_ev (n : Nat) : ∀ a b : Int, b.natAbs = n → a.natAbs ≤ 9223372036854775807 → b.natAbs ≤ 9223372036854775807 → Ev (fun k => spec_foGcd.f k a b) ((Nat.gcd a.natAbs b.natAbs : Nat) : Int) := by
  induction n using Nat.strongRecOn with
  | _ n ih =>
    intro a b hn ha hb
    by_cases h0 : b = 0
    · subst h0
      refine Ev.step (f := fun _ => some ((a.natAbs : Nat) : Int)) (fun k => ?_) (by rw [Int.natAbs_zero, Nat.gcd_zero_right]; exact Ev.now _)
      simp only [spec_foGcd.f]
      rw [if_pos trivial]
      unfold spec_l1Abs.f spec_l1Most.f
      rw [wrap_id (by omega) (by omega)]
      by_cases h : a > -a
      · rw [if_pos h]; simp only [Option.bind_some]; exact congrArg some (by omega)
      · rw [if_neg h]; simp only [Option.bind_some]; exact congrArg some (by omega)
    · have hm := natAbs_tmod_ a b
      have hlt : a.natAbs % b.natAbs < b.natAbs := Nat.mod_lt _ (by omega)
      have := ih (Int.tmod a b).natAbs (by omega) b (Int.tmod a b) rfl hb (by omega)
      refine Ev.step (f := fun k => (spec_foGcd.f k b (Int.tmod a b)).bind fun t => some t) (fun k => ?_) ?_
      · simp only [spec_foGcd.f]
        rw [if_neg h0]
      · rw [← gcd_step a.natAbs b.natAbs, ← hm]
        exact Ev.bind this (Ev.now _)
theorem divisorZ_ev (n : Nat) : ∀ a b : Int, b.natAbs = n → a.natAbs ≤ 9223372036854775807 → b.natAbs ≤ 9223372036854775807 → Ev (fun k => impl_divisor.f k a b) ((Nat.gcd a.natAbs b.natAbs : Nat) : Int) := by
  unfold impl_divisor.f
  induction n using Nat.strongRecOn with
  | _ n ih =>
    intro a b hn ha hb
    by_cases h0 : b = 0
    · subst h0
      refine Ev.step (f := fun _ => some ((a.natAbs : Nat) : Int)) (fun k => ?_) (by rw [Int.natAbs_zero, Nat.gcd_zero_right]; exact Ev.now _)
      simp only [impl_divisor.l0]
      rw [if_pos trivial, wrap_id (by omega) (by omega)]
      unfold mx
      by_cases h : a < -a
      · rw [if_pos h]; exact congrArg some (by omega)
      · rw [if_neg h]; exact congrArg some (by omega)
    · have hm := natAbs_tmod_ a b
      have hlt : a.natAbs % b.natAbs < b.natAbs := Nat.mod_lt _ (by omega)
      have := ih (Int.tmod a b).natAbs (by omega) b (Int.tmod a b) rfl hb (by omega)
      refine Ev.step (f := fun k => impl_divisor.l0 k b (Int.tmod a b)) (fun k => ?_) ?_
      · simp only [impl_divisor.l0]
        rw [if_neg h0]
      · rw [← gcd_step a.natAbs b.natAbs, ← hm]
        exact this

def bq (x : Int) : Prop := -100000 ≤ x ∧ x ≤ 100000
theorem sqb {a b A B : Int} (h0 : -A ≤ a) (h1 : a ≤ A) (h2 : -B ≤ b) (h3 : b ≤ B) : -(A * B) ≤ a * b ∧ a * b ≤ A * B := by
  have p1 := Int.mul_nonneg (show 0 ≤ A - a by omega) (show 0 ≤ B + b by omega)
  have p2 := Int.mul_nonneg (show 0 ≤ A + a by omega) (show 0 ≤ B - b by omega)
  have p3 := Int.mul_nonneg (show 0 ≤ A - a by omega) (show 0 ≤ B - b by omega)
  have p4 := Int.mul_nonneg (show 0 ≤ A + a by omega) (show 0 ≤ B + b by omega)
  constructor <;> grind
def form4 (a b c d : Int) : Bool := decide (a + b + c + d > 0) && (2 * (a * a + b * b + c * c + d * d) == (a + b + c + d) * (a + b + c + d))
def quadB (l : List Int) : Bool := (decide (l.length = 4) && l.all (inB (-100000) 100000)) && match l with
  | [a, b, c, d] => form4 a b c d
  | _ => false
theorem four {l : List Int} (h : l.length = 4) : ∃ a b c d, l = [a, b, c, d] := by
  match l, h with
  | [a, b, c, d], _ => exact ⟨a, b, c, d, rfl⟩
theorem quadB_iff {l : List Int} : quadB l = true ↔ ∃ a b c d, l = [a, b, c, d] ∧ bq a ∧ bq b ∧ bq c ∧ bq d ∧ a + b + c + d > 0 ∧ 2 * (a * a + b * b + c * c + d * d) = (a + b + c + d) * (a + b + c + d) := by
  constructor
  · intro h
    simp only [quadB, Bool.and_eq_true, decide_eq_true_eq] at h
    obtain ⟨a, b, c, d, rfl⟩ := four h.1.1
    simp only [List.all_cons, List.all_nil, Bool.and_true, Bool.and_eq_true, inB_iff, form4, decide_eq_true_eq, beq_iff_eq] at h
    exact ⟨a, b, c, d, rfl, h.1.2.1, h.1.2.2.1, h.1.2.2.2.1, h.1.2.2.2.2, h.2.1, h.2.2⟩
  · rintro ⟨a, b, c, d, rfl, h0, h1, h2, h3, h4, h5⟩
    simp only [quadB, Bool.and_eq_true, decide_eq_true_eq, List.all_cons, List.all_nil, Bool.and_true, inB_iff, form4, beq_iff_eq, List.length_cons, List.length_nil]
    exact ⟨⟨trivial, h0, h1, h2, h3⟩, h4, h5⟩
theorem r40 (a b c d : Int) : rd [a, b, c, d] 0 = a := Eq.trans rfl rfl
theorem r41 (a b c d : Int) : rd [a, b, c, d] 1 = b := Eq.trans rfl rfl
theorem r42 (a b c d : Int) : rd [a, b, c, d] 2 = c := Eq.trans rfl rfl
theorem r43 (a b c d : Int) : rd [a, b, c, d] 3 = d := Eq.trans rfl rfl
theorem w01 : wrap64 (0 + 1) = 1 := wrap_id (x := 0 + 1) (by decide) (by decide)
theorem w12 : wrap64 (1 + 1) = 2 := wrap_id (x := 1 + 1) (by decide) (by decide)
theorem w23 : wrap64 (2 + 1) = 3 := wrap_id (x := 2 + 1) (by decide) (by decide)
theorem w34 : wrap64 (3 + 1) = 4 := wrap_id (x := 3 + 1) (by decide) (by decide)
theorem i04 : (0 : Int) < 4 := by decide
theorem i14 : (1 : Int) < 4 := by decide
theorem i24 : (2 : Int) < 4 := by decide
theorem i34 : (3 : Int) < 4 := by decide
theorem i44 : ¬ (4 : Int) < 4 := by decide
theorem i00 : (0 : Int) ≤ 0 := by decide
theorem i01 : (0 : Int) ≤ 1 := by decide
theorem i02 : (0 : Int) ≤ 2 := by decide
theorem i03 : (0 : Int) ≤ 3 := by decide
theorem len4 (a b c d : Int) : (([a, b, c, d] : List Int).length : Int) = 4 := rfl
theorem sums {a b c d : Int} (h0 : bq a) (h1 : bq b) (h2 : bq c) (h3 : bq d) :
    (0 ≤ a * a ∧ a * a ≤ 10000000000) ∧ (0 ≤ b * b ∧ b * b ≤ 10000000000) ∧ (0 ≤ c * c ∧ c * c ≤ 10000000000) ∧ (0 ≤ d * d ∧ d * d ≤ 10000000000) ∧ -160000000000 ≤ (a + b + c + d) * (a + b + c + d) ∧ (a + b + c + d) * (a + b + c + d) ≤ 160000000000 := by
  unfold bq at *
  have nn : ∀ x : Int, 0 ≤ x * x := fun x => by
    rcases Int.le_total 0 x with h | h
    · exact Int.mul_nonneg h h
    · have := Int.mul_nonneg (show 0 ≤ -x by omega) (show 0 ≤ -x by omega); grind
  refine ⟨⟨nn a, (sqb (A := 100000) (B := 100000) (by omega) h0.2 (by omega) h0.2).2⟩, ⟨nn b, (sqb (A := 100000) (B := 100000) (by omega) h1.2 (by omega) h1.2).2⟩, ⟨nn c, (sqb (A := 100000) (B := 100000) (by omega) h2.2 (by omega) h2.2).2⟩, ⟨nn d, (sqb (A := 100000) (B := 100000) (by omega) h3.2 (by omega) h3.2).2⟩, ?_⟩
  exact sqb (A := 400000) (B := 400000) (by omega) (by omega) (by omega) (by omega)
theorem apGood_l {a b c d : Int} (h0 : bq a) (h1 : bq b) (h2 : bq c) (h3 : bq d) (k : Nat) : spec_apGood.l0 (k + 5) 0 0 [a, b, c, d] 4 0 = some (form4 a b c d) := by
  obtain ⟨s0, s1, s2, s3, s4⟩ := sums h0 h1 h2 h3
  unfold bq at h0 h1 h2 h3
  simp only [spec_apGood.l0, len4, r40, r41, r42, r43, w01, w12, w23, w34, if_pos i04, if_pos i14, if_pos i24, if_pos i34, if_neg i44, if_pos i00, if_pos i01, if_pos i02, if_pos i03]
  rw [Int.zero_add, Int.zero_add, wrap_id (x := a) (by omega) (by omega), wrap_id (x := a * a) (by omega) (by omega), wrap_id (x := a * a) (by omega) (by omega), wrap_id (x := b * b) (by omega) (by omega), wrap_id (x := c * c) (by omega) (by omega), wrap_id (x := d * d) (by omega) (by omega), wrap_id (x := a + b) (by omega) (by omega), wrap_id (x := a + b + c) (by omega) (by omega), wrap_id (x := a + b + c + d) (by omega) (by omega), wrap_id (x := a * a + b * b) (by omega) (by omega), wrap_id (x := a * a + b * b + c * c) (by omega) (by omega), wrap_id (x := a * a + b * b + c * c + d * d) (by omega) (by omega), wrap_id (x := 2 * (a * a + b * b + c * c + d * d)) (by omega) (by omega), wrap_id (x := (a + b + c + d) * (a + b + c + d)) (by omega) (by omega)]
  unfold form4
  by_cases h : a + b + c + d > 0
  · rw [if_pos h, decide_eq_true h, Bool.true_and]
  · rw [if_neg h, decide_eq_false h, Bool.false_and]
theorem apGood_ev (l : List Int) (hl : (l.length : Int) ≤ 9223372036854775806) : Ev (fun k => spec_apGood.f k l) (quadB l) := by
  have j0 : ∀ x, Ev (fun k => spec_apGood.j0 k x true) false := fun x => Ev.from 0 (fun k hk => by
    obtain ⟨k, rfl⟩ : ∃ m, k = m + 1 := ⟨k - 1, by omega⟩
    simp [spec_apGood.j0])
  unfold spec_apGood.f quadB
  by_cases h : l.length = 4
  · have ha := l1All_ev (-100000) 100000 l hl
    simp only [if_pos (show (l.length : Int) = 4 by omega), decide_eq_true h, Bool.true_and]
    refine Ev.bind ha ?_
    cases hb : l.all (inB (-100000) 100000) with
    | false => simp only [Bool.not_false, Bool.false_and]; exact j0 l
    | true =>
      obtain ⟨a, b, c, d, rfl⟩ := four h
      simp only [List.all_cons, List.all_nil, Bool.and_true, Bool.and_eq_true, inB_iff] at hb
      simp only [Bool.not_true, Bool.true_and]
      refine Ev.from 10 (fun k hk => ?_)
      obtain ⟨k, rfl⟩ : ∃ m, k = m + 6 := ⟨k - 6, by omega⟩
      simp only [spec_apGood.j0, Bool.false_eq_true, if_false]
      exact apGood_l hb.1 hb.2.1 hb.2.2.1 hb.2.2.2 k
  · simp only [if_neg (show ¬ (l.length : Int) = 4 by omega), decide_eq_false h, Bool.false_and]
    exact j0 l
theorem sumOf_l {a b c d : Int} (h0 : bq a) (h1 : bq b) (h2 : bq c) (h3 : bq d) (k : Nat) : impl_sumOf.f (k + 5) [a, b, c, d] = some (a + b + c + d) := by
  unfold bq at h0 h1 h2 h3
  unfold impl_sumOf.f
  simp only [impl_sumOf.l0, len4, r40, r41, r42, r43, w01, w12, w23, w34, if_pos i04, if_pos i14, if_pos i24, if_pos i34, if_neg i44, if_pos i00, if_pos i01, if_pos i02, if_pos i03]
  rw [Int.zero_add, wrap_id (x := a) (by omega) (by omega), wrap_id (x := a + b) (by omega) (by omega), wrap_id (x := a + b + c) (by omega) (by omega), wrap_id (x := a + b + c + d) (by omega) (by omega)]
theorem dot_l {a b c d : Int} (h0 : bq a) (h1 : bq b) (h2 : bq c) (h3 : bq d) (k : Nat) : impl_dot.f (k + 5) [a, b, c, d] [a, b, c, d] = some (a * a + b * b + c * c + d * d) := by
  obtain ⟨s0, s1, s2, s3, s4⟩ := sums h0 h1 h2 h3
  unfold impl_dot.f
  simp only [impl_dot.l0, len4, r40, r41, r42, r43, w01, w12, w23, w34, if_pos i04, if_pos i14, if_pos i24, if_pos i34, if_neg i44, if_pos i00, if_pos i01, if_pos i02, if_pos i03]
  rw [Int.zero_add, wrap_id (x := a * a) (by omega) (by omega), wrap_id (x := a * a) (by omega) (by omega), wrap_id (x := b * b) (by omega) (by omega), wrap_id (x := c * c) (by omega) (by omega), wrap_id (x := d * d) (by omega) (by omega), wrap_id (x := a * a + b * b) (by omega) (by omega), wrap_id (x := a * a + b * b + c * c) (by omega) (by omega), wrap_id (x := a * a + b * b + c * c + d * d) (by omega) (by omega)]
theorem isQuad_ev (l : List Int) : Ev (fun k => impl_IsQuad.f k l) (quadB l) := by
  have j0 : ∀ x, Ev (fun k => impl_IsQuad.j0 k x true) false := fun x => Ev.from 0 (fun k hk => by
    obtain ⟨k, rfl⟩ : ∃ m, k = m + 1 := ⟨k - 1, by omega⟩
    simp [impl_IsQuad.j0])
  unfold impl_IsQuad.f impl_allWithin.f quadB
  by_cases h : l.length = 4
  · simp only [if_pos (show (l.length : Int) = 4 by omega), decide_eq_true h, Bool.true_and, Option.bind_some]
    cases hb : l.all (inB (-100000) 100000) with
    | false => simp only [Bool.not_false, Bool.false_and]; exact j0 l
    | true =>
      obtain ⟨a, b, c, d, rfl⟩ := four h
      simp only [List.all_cons, List.all_nil, Bool.and_true, Bool.and_eq_true, inB_iff] at hb
      simp only [Bool.not_true, Bool.true_and]
      refine Ev.from 10 (fun k hk => ?_)
      obtain ⟨k, rfl⟩ : ∃ m, k = m + 6 := ⟨k - 6, by omega⟩
      simp only [impl_IsQuad.j0, Bool.false_eq_true, if_false]
      rw [sumOf_l hb.1 hb.2.1 hb.2.2.1 hb.2.2.2 k, dot_l hb.1 hb.2.1 hb.2.2.1 hb.2.2.2 k]
      obtain ⟨s0, s1, s2, s3, s4⟩ := sums hb.1 hb.2.1 hb.2.2.1 hb.2.2.2
      simp only [Option.bind_some]
      rw [wrap_id (x := 2 * (a * a + b * b + c * c + d * d)) (by omega) (by omega), wrap_id (x := (a + b + c + d) * (a + b + c + d)) (by omega) (by omega)]
      unfold form4
      by_cases h : a + b + c + d > 0
      · rw [if_pos h, decide_eq_true h, Bool.true_and]
      · rw [if_neg h, decide_eq_false h, Bool.false_and]
  · simp only [if_neg (show ¬ (l.length : Int) = 4 by omega), decide_eq_false h, Bool.false_and]
    exact j0 l

theorem scale_ev (a b c d : Int) (ha : bq a) (hb : bq b) (hc : bq c) (hd : bq d) : ∃ g, Ev (fun k => spec_apScale.f k [a, b, c, d]) g ∧ Ev (fun k => impl_scale.f k [a, b, c, d]) g := by
  unfold bq at ha hb hc hd
  have le : ∀ x y : Nat, x ≤ 100000 → y ≤ 100000 → Nat.gcd x y ≤ 100000 := fun x y hx hy => by
    rcases Nat.eq_zero_or_pos y with h | h
    · subst h; rw [Nat.gcd_zero_right]; exact hx
    · exact Nat.le_trans (Nat.gcd_le_right _ h) hy
  have g1 := le a.natAbs b.natAbs (by omega) (by omega)
  have g2 := le c.natAbs d.natAbs (by omega) (by omega)
  refine ⟨((Nat.gcd (Nat.gcd a.natAbs b.natAbs) (Nat.gcd c.natAbs d.natAbs) : Nat) : Int), ?_, ?_⟩
  · unfold spec_apScale.f
    simp only [len4, r40, r41, r42, r43, if_pos i04, if_pos i14, if_pos i24, if_pos i34]
    refine Ev.bind (foGcdZ_ev _ a b rfl (by omega) (by omega)) ?_
    refine Ev.bind (foGcdZ_ev _ c d rfl (by omega) (by omega)) ?_
    refine Ev.bind (foGcdZ_ev _ ((Nat.gcd a.natAbs b.natAbs : Nat) : Int) ((Nat.gcd c.natAbs d.natAbs : Nat) : Int) rfl (by omega) (by omega)) ?_
    exact Ev.now _
  · have e1 := divisorZ_ev _ 0 a rfl (by omega) (by omega)
    have e2 := divisorZ_ev _ ((Nat.gcd 0 a.natAbs : Nat) : Int) b rfl (by rw [Nat.gcd_zero_left]; omega) (by omega)
    have e3 := divisorZ_ev _ ((Nat.gcd a.natAbs b.natAbs : Nat) : Int) c rfl (by omega) (by omega)
    have g3 := le (Nat.gcd a.natAbs b.natAbs) c.natAbs g1 (by omega)
    have e4 := divisorZ_ev _ ((Nat.gcd (Nat.gcd a.natAbs b.natAbs) c.natAbs : Nat) : Int) d rfl (by omega) (by omega)
    simp only [Int.natAbs_zero, Nat.gcd_zero_left, Int.natAbs_natCast] at e1 e2 e3 e4
    rw [Nat.gcd_assoc (Nat.gcd a.natAbs b.natAbs) c.natAbs d.natAbs] at e4
    have key : Ev (fun k => (impl_divisor.f k 0 a).bind fun x => (impl_divisor.f k x b).bind fun y => (impl_divisor.f k y c).bind fun z => (impl_divisor.f k z d).bind fun u => some u) ((Nat.gcd (Nat.gcd a.natAbs b.natAbs) (Nat.gcd c.natAbs d.natAbs) : Nat) : Int) :=
      Ev.bind e1 (Ev.bind e2 (Ev.bind e3 (Ev.bind e4 (Ev.now _))))
    unfold impl_scale.f
    refine Ev.step (f := fun k => (impl_divisor.f k 0 a).bind fun t => impl_scale.l0 k t [a, b, c, d] 4 1) (fun k => ?_) ?_
    · simp only [impl_scale.l0, len4, r40, w01, if_pos i04, if_pos i00]
    refine Ev.bind e1 (Ev.step (f := fun k => (impl_divisor.f k ((a.natAbs : Nat) : Int) b).bind fun t => impl_scale.l0 k t [a, b, c, d] 4 2) (fun k => ?_) ?_)
    · simp only [impl_scale.l0, len4, r41, w12, if_pos i14, if_pos i01]
    refine Ev.bind e2 (Ev.step (f := fun k => (impl_divisor.f k ((Nat.gcd a.natAbs b.natAbs : Nat) : Int) c).bind fun t => impl_scale.l0 k t [a, b, c, d] 4 3) (fun k => ?_) ?_)
    · simp only [impl_scale.l0, len4, r42, w23, if_pos i24, if_pos i02]
    refine Ev.bind e3 (Ev.step (f := fun k => (impl_divisor.f k ((Nat.gcd (Nat.gcd a.natAbs b.natAbs) c.natAbs : Nat) : Int) d).bind fun t => impl_scale.l0 k t [a, b, c, d] 4 4) (fun k => ?_) ?_)
    · simp only [impl_scale.l0, len4, r43, w34, if_pos i34, if_pos i03]
    refine Ev.bind e4 (Ev.step (f := fun _ => some ((Nat.gcd (Nat.gcd a.natAbs b.natAbs) (Nat.gcd c.natAbs d.natAbs) : Nat) : Int)) (fun k => ?_) (Ev.now _))
    simp only [impl_scale.l0, if_neg i44]

def putI (n : Int) : List Int → List Int
  | [] => [n]
  | x :: r => if x < n then x :: putI n r else if x = n then x :: r else n :: x :: r
theorem l1Put_l (l : List Int) (n : Int) (hl : l.length ≤ 100000) (d : Nat) : ∀ (i k : Nat), i + d = l.length → d < k → spec_l1Put.l0 k l n (i : Int) = some (l.take i ++ putI n (l.drop i)) := by
  induction d with
  | zero =>
    intro i k hi hk
    obtain ⟨k, rfl⟩ : ∃ m, k = m + 1 := ⟨k - 1, by omega⟩
    simp only [spec_l1Put.l0, Option.bind_some]
    rw [if_neg (by omega), if_pos (by omega), if_pos (by omega), if_pos (by simp; omega), if_pos (by simp; omega), if_pos (by simp; omega)]
    simp only [Int.toNat_natCast, List.nil_append]
    rw [List.drop_eq_nil_of_le (by omega)]
    simp [putI]
  | succ d ih =>
    intro i k hi hk
    obtain ⟨k, rfl⟩ : ∃ m, k = m + 1 := ⟨k - 1, by omega⟩
    have hil : i < l.length := by omega
    simp only [spec_l1Put.l0, Option.bind_some]
    rw [if_pos (by omega), if_pos (by omega), rdi_at hil, List.drop_eq_getElem_cons hil]
    simp only [putI]
    by_cases h1 : l[i] < n
    · rw [if_pos h1, if_pos h1, wrap_id (by omega) (by omega)]
      have := ih (i + 1) k (by omega) (by omega)
      rw [show ((i + 1 : Nat) : Int) = (i : Int) + 1 by omega] at this
      rw [this, List.take_succ_eq_append_getElem hil, List.append_assoc]
      rfl
    · rw [if_neg h1, if_neg h1]
      by_cases h2 : l[i] = n
      · rw [if_pos h2, if_pos h2, ← List.drop_eq_getElem_cons hil, List.take_append_drop]
      · rw [if_neg h2, if_neg h2, if_pos (by omega), if_pos (by simp; omega), if_pos (by simp; omega), if_pos (by simp; omega)]
        simp only [Int.toNat_natCast, List.nil_append]
        rw [← List.drop_eq_getElem_cons hil]
        simp
theorem l1Put_ev (l : List Int) (n : Int) (hl : l.length ≤ 100000) : Ev (fun k => spec_l1Put.f k l n) (putI n l) :=
  Ev.from l.length (fun k hk => by
    have := l1Put_l l n hl l.length 0 k (by omega) hk
    simpa [spec_l1Put.f] using this)
theorem putI_head (n : Int) (l : List Int) (h : ∀ x ∈ l, n < x) : putI n l = n :: l := by
  cases l with
  | nil => rfl
  | cons x r =>
    have := h x (by simp)
    simp only [putI]
    rw [if_neg (by omega), if_neg (by omega)]
theorem selB_ge (L : List Bool) : ∀ (i x : Int), x ∈ selB i L → i ≤ x := by
  induction L with
  | nil => intro i x h; simp [selB] at h
  | cons b r ih =>
    intro i x h
    simp only [selB] at h
    cases b with
    | false =>
      have := ih (i + 1) x (by simpa using h)
      omega
    | true =>
      simp at h
      rcases h with rfl | h
      · omega
      · have := ih (i + 1) x h
        omega
theorem putI_sel (L : List Bool) : ∀ (i : Int) (m : Nat), m < L.length → putI (i + m) (selB i L) = selB i (L.set m true) := by
  induction L with
  | nil => intro i m h; simp at h
  | cons b r ih =>
    intro i m h
    cases m with
    | zero =>
      have hh : putI i (selB (i + 1) r) = i :: selB (i + 1) r := putI_head _ _ (fun x hx => by have := selB_ge r _ _ hx; omega)
      cases b with
      | false => simpa [selB] using hh
      | true => simp [selB, putI]
    | succ m =>
      have hm := ih (i + 1) m (by simpa using h)
      rw [show i + 1 + (m : Int) = i + ((m + 1 : Nat) : Int) by omega] at hm
      cases b with
      | false => simpa [selB] using hm
      | true =>
        simp only [List.set_cons_succ, selB, if_true, putI]
        rw [if_pos (by omega), hm]
theorem selB_len (L : List Bool) : ∀ i, (selB i L).length ≤ L.length := by
  induction L with
  | nil => intro i; simp [selB]
  | cons b r ih =>
    intro i
    have := ih (i + 1)
    simp only [selB]
    cases b <;> simp <;> omega

theorem md24 (n : Int) : Int.tmod (wrap64 (Int.tmod n 24 + 24)) 24 = n % 24 := by
  have h1 : -24 < Int.tmod n 24 ∧ Int.tmod n 24 < 24 := by
    have := Int.tmod_lt_of_pos n (show (0 : Int) < 24 by decide)
    have h2 := Int.lt_tmod_of_pos n (show (0 : Int) < 24 by decide)
    omega
  have hw : wrap64 (Int.tmod n 24 + 24) = Int.tmod n 24 + 24 := by unfold wrap64; omega
  rw [hw, Int.tmod_eq_emod_of_nonneg (by omega)]
  have h3 := Int.mul_tdiv_add_tmod n 24
  omega
/-- Four remainders. -/
def Vq (v : List Int) : Prop := v.length = 4 ∧ ∀ x ∈ v, 0 ≤ x ∧ x < 24
theorem vq_four {v : List Int} (h : Vq v) : ∃ a b c d, v = [a, b, c, d] ∧ (0 ≤ a ∧ a < 24) ∧ (0 ≤ b ∧ b < 24) ∧ (0 ≤ c ∧ c < 24) ∧ (0 ≤ d ∧ d < 24) := by
  obtain ⟨a, b, c, d, rfl⟩ := four h.1
  exact ⟨a, b, c, d, rfl, h.2 a (by simp), h.2 b (by simp), h.2 c (by simp), h.2 d (by simp)⟩
theorem vq_mk {a b c d : Int} (ha : 0 ≤ a ∧ a < 24) (hb : 0 ≤ b ∧ b < 24) (hc : 0 ≤ c ∧ c < 24) (hd : 0 ≤ d ∧ d < 24) : Vq [a, b, c, d] := by
  refine ⟨rfl, fun x hx => ?_⟩
  simp only [List.mem_cons, List.not_mem_nil, or_false] at hx
  rcases hx with rfl | rfl | rfl | rfl
  · exact ha
  · exact hb
  · exact hc
  · exact hd
def cdi (v : List Int) : Int := 24 * (24 * (24 * v.getD 0 0 + v.getD 1 0) + v.getD 2 0) + v.getD 3 0
theorem cdi4 (a b c d : Int) : cdi [a, b, c, d] = 24 * (24 * (24 * a + b) + c) + d := rfl
theorem cdi_b {v : List Int} (h : Vq v) : 0 ≤ cdi v ∧ cdi v < 331776 := by
  obtain ⟨a, b, c, d, rfl, ha, hb, hc, hd⟩ := vq_four h
  rw [cdi4]
  omega
theorem cdi_inj {v u : List Int} (h : Vq v) (h' : Vq u) (e : cdi v = cdi u) : v = u := by
  obtain ⟨a, b, c, d, rfl, ha, hb, hc, hd⟩ := vq_four h
  obtain ⟨a', b', c', d', rfl, ha', hb', hc', hd'⟩ := vq_four h'
  rw [cdi4, cdi4] at e
  obtain rfl : a = a' := by omega
  obtain rfl : b = b' := by omega
  obtain rfl : c = c' := by omega
  obtain rfl : d = d' := by omega
  rfl
theorem apCode_ev {v : List Int} (h : Vq v) : Ev (fun k => spec_apCode.f k v) (cdi v) := by
  obtain ⟨a, b, c, d, rfl, ha, hb, hc, hd⟩ := vq_four h
  refine Ev.from 6 (fun k hk => ?_)
  obtain ⟨k, rfl⟩ : ∃ m, k = m + 5 := ⟨k - 5, by omega⟩
  unfold spec_apCode.f
  simp only [spec_apCode.l0, len4, r40, r41, r42, r43, w01, w12, w23, w34, if_pos i04, if_pos i14, if_pos i24, if_pos i34, if_neg i44, if_pos i00, if_pos i01, if_pos i02, if_pos i03, md24]
  rw [Int.emod_eq_of_lt ha.1 ha.2, Int.emod_eq_of_lt hb.1 hb.2, Int.emod_eq_of_lt hc.1 hc.2, Int.emod_eq_of_lt hd.1 hd.2, cdi4]
  rw [wrap_id (x := 24 * 0) (by omega) (by omega), wrap_id (x := 24 * 0 + a) (by omega) (by omega), wrap_id (x := 24 * (24 * 0 + a)) (by omega) (by omega), wrap_id (x := 24 * (24 * 0 + a) + b) (by omega) (by omega), wrap_id (x := 24 * (24 * (24 * 0 + a) + b)) (by omega) (by omega), wrap_id (x := 24 * (24 * (24 * 0 + a) + b) + c) (by omega) (by omega), wrap_id (x := 24 * (24 * (24 * (24 * 0 + a) + b) + c)) (by omega) (by omega), wrap_id (x := 24 * (24 * (24 * (24 * 0 + a) + b) + c) + d) (by omega) (by omega)]
  congr 1
  omega
/-- The swap, before the remainder is taken. -/
def sw24 (v : List Int) (i : Nat) : Int := 2 * (v.sum - v.getD i 0) - v.getD i 0
def nx (v : List Int) (i : Nat) : List Int := v.set i (sw24 v i % 24)
theorem rd_nat6 (l : List Int) (i : Nat) : rd l (i : Int) = l.getD i 0 := by simp [rd]
theorem vq_get {v : List Int} (h : Vq v) {i : Nat} (hi : i < 4) : 0 ≤ v.getD i 0 ∧ v.getD i 0 < 24 := by
  have := h.1
  rw [List.getD_eq_getElem?_getD, List.getElem?_eq_getElem (show i < v.length by omega)]
  exact h.2 _ (List.getElem_mem _)
theorem vq_nx {v : List Int} (h : Vq v) (i : Nat) : Vq (nx v i) := by
  refine ⟨by unfold nx; rw [List.length_set]; exact h.1, fun x hx => ?_⟩
  unfold nx at hx
  rcases List.mem_or_eq_of_mem_set hx with h1 | rfl
  · exact h.2 x h1
  · omega
theorem apSwap24 {v : List Int} (h : Vq v) {i : Nat} (hi : i < 4) : spec_apSwap.f v (i : Int) = some (v.set i (sw24 v i)) := by
  have hg := vq_get h hi
  obtain ⟨a, b, c, d, rfl, ha, hb, hc, hd⟩ := vq_four h
  unfold spec_apSwap.f spec_l1Own.f spec_apSum.f
  simp only [Option.bind_some, List.length_nil, List.nil_append, len4, r40, r41, r42, r43, if_pos i04, if_pos i14, if_pos i24, if_pos i34]
  rw [if_pos (by simp)]
  simp only [Option.bind_some, len4]
  rw [if_pos (by omega), if_pos (by omega), rd_nat6]
  have hs : ([a, b, c, d] : List Int).sum = a + b + c + d := by simp; omega
  unfold sw24
  rw [hs]
  generalize ([a, b, c, d] : List Int).getD i 0 = x at *
  rw [wrap_id (x := a + b) (by omega) (by omega), wrap_id (x := a + b + c) (by omega) (by omega), wrap_id (x := a + b + c + d) (by omega) (by omega), wrap_id (x := a + b + c + d - x) (by omega) (by omega), wrap_id (x := 2 * (a + b + c + d - x)) (by omega) (by omega), wrap_id (x := 2 * (a + b + c + d - x) - x) (by omega) (by omega)]
  simp only [if_pos (show (i : Int) < 4 by omega), Int.toNat_natCast]
theorem swapped24 {v : List Int} (h : Vq v) {i : Nat} (hi : i < 4) : Ev (fun k => impl_swapped.f k v (i : Int)) (v.set i (sw24 v i)) := by
  have hg := vq_get h hi
  obtain ⟨a, b, c, d, rfl, ha, hb, hc, hd⟩ := vq_four h
  have bb : ∀ x : Int, 0 ≤ x ∧ x < 24 → bq x := fun x hx => by unfold bq; omega
  have hsum : Ev (fun k => impl_sumOf.f k [a, b, c, d]) (a + b + c + d) := Ev.from 5 (fun k hk => by
    obtain ⟨k, rfl⟩ : ∃ m, k = m + 5 := ⟨k - 5, by omega⟩
    exact sumOf_l (bb a ha) (bb b hb) (bb c hc) (bb d hd) k)
  unfold impl_swapped.f slices_Clone_int_int.f
  simp only [if_pos (show ([a, b, c, d] : List Int).length < 17592186044416 by simp), Option.bind_some, len4]
  refine Ev.bind hsum ?_
  rw [if_pos (by omega), if_pos (by omega), rd_nat6]
  have hs : ([a, b, c, d] : List Int).sum = a + b + c + d := by simp; omega
  unfold sw24
  rw [hs]
  generalize ([a, b, c, d] : List Int).getD i 0 = x at *
  rw [wrap_id (x := a + b + c + d - x) (by omega) (by omega), wrap_id (x := 2 * (a + b + c + d - x)) (by omega) (by omega), wrap_id (x := 2 * (a + b + c + d - x) - x) (by omega) (by omega)]
  simp only [if_pos (show (i : Int) < 4 by omega), Int.toNat_natCast]
  exact Ev.now _
/-- What both searches keep. -/
structure Inv6 (qs : List (List Int)) (seen : List Bool) : Prop where
  val : ∀ v ∈ qs, Vq v
  len : seen.length = 331776
  cnt : seen.count true = qs.length
  iff : ∀ v, Vq v → (seen.getD (cdi v).toNat false = true ↔ v ∈ qs)
theorem Inv6.le {qs : List (List Int)} {seen : List Bool} (h : Inv6 qs seen) : qs.length ≤ 331776 := by
  rw [← h.cnt, ← h.len]
  exact List.count_le_length
theorem Inv6.grow {qs : List (List Int)} {seen : List Bool} (h : Inv6 qs seen) {y : List Int} (hy : Vq y) (hn : y ∉ qs) : Inv6 (qs ++ [y]) (seen.set (cdi y).toNat true) := by
  have hb := cdi_b hy
  have hlt : (cdi y).toNat < seen.length := by rw [h.len]; omega
  have hf : seen[(cdi y).toNat] = false := by
    have := (not_congr (h.iff y hy)).2 hn
    rw [List.getD_eq_getElem?_getD, List.getElem?_eq_getElem hlt] at this
    simpa using this
  refine ⟨fun v hv => (List.mem_append.1 hv).elim (h.val v) (fun h1 => by rw [List.mem_singleton.1 h1]; exact hy), by rw [List.length_set]; exact h.len, ?_, fun v hv => ?_⟩
  · rw [List.count_set hlt, hf, h.cnt]
    simp
  · have hbv := cdi_b hv
    rw [List.getD_eq_getElem?_getD]
    by_cases e : cdi v = cdi y
    · have := cdi_inj hv hy e
      subst this
      rw [List.getElem?_set_self hlt]
      simp
    · rw [List.getElem?_set_ne (by omega), ← List.getD_eq_getElem?_getD, h.iff v hv]
      constructor
      · intro h1
        exact List.mem_append_left _ h1
      · intro h1
        rcases List.mem_append.1 h1 with h1 | h1
        · exact h1
        · rw [List.mem_singleton.1 h1] at e
          exact absurd rfl e
theorem rdOf_nat (l : List Bool) (i : Int) : rdOf false l i = l.getD i.toNat false := by simp [rdOf]
/-- The row that is searched. -/
theorem rowL {qs : List (List Int)} {x : Nat} {v : List Int} (h : qs[x]? = some v) : rd_L1 qs (x : Int) = v ∧ rowA qs (x : Int) = v := by
  constructor
  · simp [rd_L1, List.getD_eq_getElem?_getD, h]
  · simp [rowA, List.getD_eq_getElem?_getD, h]
/-- One swap: both searches. -/
theorem step6 {qs : List (List Int)} {seen : List Bool} {x i : Nat} {v : List Int} (hI : Inv6 qs seen) (hv : qs[x]? = some v) (hi : i < 4) :
    ∃ qs' seen', Inv6 qs' seen' ∧ qs'[x]? = some v ∧ (∀ (out : List Int) R, Ev (fun k => spec_ResiduesOf.l3 k seen' qs' out (x : Int) ((i + 1 : Nat) : Int)) R → Ev (fun k => spec_ResiduesOf.l3 k seen qs out (x : Int) (i : Int)) R) ∧
      (∀ (hs : List Bool) R, Ev (fun k => impl_ResiduesOf.l2 k qs' (hs.set (v.getD i 0).toNat true) (x : Int) v ((i + 1 : Nat) : Int)) R → Ev (fun k => impl_ResiduesOf.l2 k qs hs (x : Int) v (i : Int)) R) := by
  have hlt : x < qs.length := (List.getElem?_eq_some_iff.1 hv).1
  have hV : Vq v := hI.val v (List.mem_of_getElem? hv)
  have hY := vq_nx hV i
  have hl4 := hV.1
  have hg := vq_get hV hi
  have hcb := cdi_b hY
  have hle := hI.le
  have w1 : wrap64 ((i : Int) + 1) = ((i + 1 : Nat) : Int) := by rw [wrap_id (by omega) (by omega)]; omega
  have hset : ((v.set i (sw24 v i)).set i (sw24 v i % 24)) = nx v i := by unfold nx; rw [List.set_set]
  have hrd : rd (v.set i (sw24 v i)) (i : Int) = sw24 v i := by
    rw [rd_nat6, List.getD_eq_getElem?_getD, List.getElem?_set_self (by omega)]
    rfl
  have hsp : ∀ (out : List Int) (R : List Int × Bool), Ev (fun k => if rdOf false seen (cdi (nx v i)) = true then (spec_ResiduesOf.l3 k seen qs out (x : Int) ((i + 1 : Nat) : Int)) else (if qs.length < 5864062014805 then (spec_ResiduesOf.l3 k (seen.set (cdi (nx v i)).toNat true) (qs ++ [nx v i]) out (x : Int) ((i + 1 : Nat) : Int)) else none)) R → Ev (fun k => spec_ResiduesOf.l3 k seen qs out (x : Int) (i : Int)) R := by
    intro out R h
    refine Ev.step (fun k => spec_ResiduesOf.l3.eq_2 ..) ?_
    simp only [(rowL hv).1, apSwap24 hV hi, Option.bind_some, List.length_set, hl4, Int.toNat_natCast, hrd, md24, hset, w1]
    simp only [if_pos (show (i : Int) < 4 by omega), if_pos (show (0 : Int) ≤ (x : Int) by omega), if_pos (show (x : Int) < (qs.length : Int) by omega), if_pos (show (0 : Int) ≤ (i : Int) by omega), if_pos (show (i : Int) < ((4 : Nat) : Int) by omega)]
    refine Ev.bind (apCode_ev hY) ?_
    simp only [hI.len, if_pos hcb.1, if_pos (show cdi (nx v i) < ((331776 : Nat) : Int) by omega)]
    exact h
  have him : ∀ (hs : List Bool) (R : List Int × Bool), Ev (fun k => if nx v i ∈ qs then (impl_ResiduesOf.l2 k qs (hs.set (v.getD i 0).toNat true) (x : Int) v ((i + 1 : Nat) : Int)) else (if qs.length < 4398046511104 then (impl_ResiduesOf.l2 k (qs ++ [nx v i]) (hs.set (v.getD i 0).toNat true) (x : Int) v ((i + 1 : Nat) : Int)) else none)) R → Ev (fun k => impl_ResiduesOf.l2 k qs hs (x : Int) v (i : Int)) R := by
    intro hs R h
    refine Ev.step (fun k => impl_ResiduesOf.l2.eq_2 ..) ?_
    simp only [rd_nat6 v i, Int.toNat_natCast, w1, if_pos (show (i : Int) < 4 by omega), if_pos hg.1, if_pos hg.2]
    refine Ev.bind (swapped24 hV hi) ?_
    simp only [List.length_set, hl4, hrd, if_pos (show (i : Int) < ((4 : Nat) : Int) by omega)]
    exact h
  by_cases hm : nx v i ∈ qs
  · have hs1 : rdOf false seen (cdi (nx v i)) = true := by rw [rdOf_nat]; exact (hI.iff _ hY).2 hm
    refine ⟨qs, seen, hI, hv, fun out R h => hsp out R ?_, fun hs R h => him hs R ?_⟩
    · simp only [if_pos hs1]
      exact h
    · simp only [if_pos hm]
      exact h
  · have hs1 : ¬ rdOf false seen (cdi (nx v i)) = true := by rw [rdOf_nat]; exact (not_congr (hI.iff _ hY)).2 hm
    refine ⟨qs ++ [nx v i], seen.set (cdi (nx v i)).toNat true, hI.grow hY hm, by rw [List.getElem?_append_left hlt]; exact hv, fun out R h => hsp out R ?_, fun hs R h => him hs R ?_⟩
    · simp only [if_neg hs1, if_pos (show qs.length < 5864062014805 by omega)]
      exact h
    · simp only [if_neg hm, if_pos (show qs.length < 4398046511104 by omega)]
      exact h
/-- The marks of a row from place i on. -/
def mkr (v : List Int) : Nat → Nat → List Bool → List Bool
  | _, 0, hs => hs
  | i, d + 1, hs => mkr v (i + 1) d (hs.set (v.getD i 0).toNat true)
theorem mkr_len (v : List Int) (d : Nat) : ∀ i hs, (mkr v i d hs).length = hs.length := by
  induction d with
  | zero => intro i hs; rfl
  | succ d ih => intro i hs; simp only [mkr]; rw [ih, List.length_set]
theorem steps6 {x : Nat} {v : List Int} (d : Nat) : ∀ (i : Nat) (qs : List (List Int)) (seen : List Bool), i + d = 4 → Inv6 qs seen → qs[x]? = some v →
    ∃ qs' seen', Inv6 qs' seen' ∧ qs'[x]? = some v ∧ (∀ (out : List Int) R, Ev (fun k => spec_ResiduesOf.l1 k seen' qs' out ((x + 1 : Nat) : Int)) R → Ev (fun k => spec_ResiduesOf.l3 k seen qs out (x : Int) (i : Int)) R) ∧
      (∀ (hs : List Bool) R, Ev (fun k => impl_ResiduesOf.l1 k qs' (mkr v i d hs) ((x + 1 : Nat) : Int)) R → Ev (fun k => impl_ResiduesOf.l2 k qs hs (x : Int) v (i : Int)) R) := by
  induction d with
  | zero =>
    intro i qs seen hi hI hv
    have hlt : x < qs.length := (List.getElem?_eq_some_iff.1 hv).1
    have hle := hI.le
    have w1 : wrap64 ((x : Int) + 1) = ((x + 1 : Nat) : Int) := by rw [wrap_id (by omega) (by omega)]; omega
    refine ⟨qs, seen, hI, hv, fun out R h => ?_, fun hs R h => ?_⟩
    · refine Ev.step (fun k => spec_ResiduesOf.l3.eq_2 ..) ?_
      simp only [if_neg (show ¬ (i : Int) < 4 by omega), w1]
      exact h
    · refine Ev.step (fun k => impl_ResiduesOf.l2.eq_2 ..) ?_
      simp only [if_neg (show ¬ (i : Int) < 4 by omega), w1]
      exact h
  | succ d ih =>
    intro i qs seen hi hI hv
    obtain ⟨qs1, seen1, hI1, hv1, s1, m1⟩ := step6 hI hv (show i < 4 by omega)
    obtain ⟨qs2, seen2, hI2, hv2, s2, m2⟩ := ih (i + 1) qs1 seen1 (by omega) hI1 hv1
    exact ⟨qs2, seen2, hI2, hv2, fun out R h => s1 out R (s2 out R h), fun hs R h => m1 hs R (m2 _ R h)⟩
/-- A row's numbers are put into the answer. -/
theorem puts6 {x : Nat} {v : List Int} {qs : List (List Int)} {seen : List Bool} (hV : Vq v) (R : List Int × Bool) (d : Nat) : ∀ (i : Nat) (hs : List Bool), i + d = 4 → hs.length = 24 → Ev (fun k => spec_ResiduesOf.l3 k seen qs (selB 0 (mkr v i d hs)) (x : Int) 0) R →
    Ev (fun k => spec_ResiduesOf.l2 k seen qs (selB 0 hs) (x : Int) v 4 (i : Int)) R := by
  induction d with
  | zero =>
    intro i hs hi hl h
    refine Ev.step (fun k => spec_ResiduesOf.l2.eq_2 ..) ?_
    simp only [if_neg (show ¬ (i : Int) < 4 by omega)]
    exact h
  | succ d ih =>
    intro i hs hi hl h
    have hg := vq_get hV (show i < 4 by omega)
    have hl4 := hV.1
    have w1 : wrap64 ((i : Int) + 1) = ((i + 1 : Nat) : Int) := by rw [wrap_id (by omega) (by omega)]; omega
    refine Ev.step (fun k => spec_ResiduesOf.l2.eq_2 ..) ?_
    simp only [hl4, rd_nat6 v i, w1, if_pos (show (i : Int) < 4 by omega), if_pos (show (0 : Int) ≤ (i : Int) by omega), if_pos (show (i : Int) < ((4 : Nat) : Int) by omega)]
    have hput : Ev (fun k => spec_l1Put.f k (selB 0 hs) (v.getD i 0)) (selB 0 (hs.set (v.getD i 0).toNat true)) := by
      have h1 := l1Put_ev (selB 0 hs) (v.getD i 0) (by have := selB_len hs 0; omega)
      have h2 := putI_sel hs 0 (v.getD i 0).toNat (by omega)
      rw [show (0 : Int) + ((v.getD i 0).toNat : Int) = v.getD i 0 by omega] at h2
      rw [h2] at h1
      exact h1
    refine Ev.bind hput ?_
    exact ih (i + 1) (hs.set (v.getD i 0).toNat true) (by omega) (by rw [List.length_set]; exact hl) h
/-- The whole search. -/
theorem bfs6 (D : Nat) : ∀ (x : Nat) (qs : List (List Int)) (seen hs : List Bool), x + D = 331776 → Inv6 qs seen → hs.length = 24 →
    ∃ R : List Bool, R.length = 24 ∧ Ev (fun k => spec_ResiduesOf.l1 k seen qs (selB 0 hs) (x : Int)) (selB 0 R, true) ∧ Ev (fun k => impl_ResiduesOf.l1 k qs hs (x : Int)) (selB 0 R, true) := by
  have out : ∀ (x : Nat) (qs : List (List Int)) (seen hs : List Bool), ¬ x < qs.length → hs.length = 24 → ∃ R : List Bool, R.length = 24 ∧ Ev (fun k => spec_ResiduesOf.l1 k seen qs (selB 0 hs) (x : Int)) (selB 0 R, true) ∧ Ev (fun k => impl_ResiduesOf.l1 k qs hs (x : Int)) (selB 0 R, true) := by
    intro x qs seen hs hx hl
    refine ⟨hs, hl, ?_, ?_⟩
    · refine Ev.step (fun k => spec_ResiduesOf.l1.eq_2 ..) ?_
      simp only [if_neg (show ¬ (x : Int) < (qs.length : Int) by omega)]
      exact Ev.now _
    · refine Ev.step (fun k => impl_ResiduesOf.l1.eq_2 ..) ?_
      simp only [if_neg (show ¬ (x : Int) < (qs.length : Int) by omega)]
      exact Ev.now _
  induction D with
  | zero =>
    intro x qs seen hs hx hI hl
    exact out x qs seen hs (by have := hI.le; omega) hl
  | succ D ih =>
    intro x qs seen hs hx hI hl
    by_cases hlt : x < qs.length
    · have hv : qs[x]? = some qs[x] := List.getElem?_eq_getElem hlt
      generalize qs[x] = v at hv
      have hV : Vq v := hI.val v (List.mem_of_getElem? hv)
      obtain ⟨qs', seen', hI', hv', s1, m1⟩ := steps6 4 0 qs seen (by omega) hI hv
      obtain ⟨R, hR, e1, e2⟩ := ih (x + 1) qs' seen' (mkr v 0 4 hs) (by omega) hI' (by rw [mkr_len]; exact hl)
      refine ⟨R, hR, ?_, ?_⟩
      · refine Ev.step (fun k => spec_ResiduesOf.l1.eq_2 ..) ?_
        simp only [if_pos (show (x : Int) < (qs.length : Int) by omega), if_pos (show (0 : Int) ≤ (x : Int) by omega), (rowL hv).1, hV.1]
        exact puts6 hV _ 4 0 hs (by omega) hl (s1 _ _ e1)
      · refine Ev.step (fun k => impl_ResiduesOf.l1.eq_2 ..) ?_
        simp only [if_pos (show (x : Int) < (qs.length : Int) by omega), if_pos (show (0 : Int) ≤ (x : Int) by omega), (rowL hv).2]
        exact m1 _ _ e2
    · exact out x qs seen hs hlt hl
theorem inv6_start {v : List Int} (h : Vq v) : Inv6 [v] ((List.replicate 331776 false).set (cdi v).toNat true) := by
  have h0 : Inv6 [] (List.replicate 331776 false) := by
    refine ⟨fun u hu => by simp at hu, by rw [List.length_replicate], ?_, fun u hu => ?_⟩
    · rw [List.count_replicate]
      rfl
    · have hb := cdi_b hu
      rw [List.getD_eq_getElem?_getD, List.getElem?_replicate_of_lt (by omega)]
      simp
  have := h0.grow h (by simp)
  rwa [List.nil_append] at this
theorem start6 {a b c d : Int} (k : Nat) (seen : List Bool) : spec_ResiduesOf.l0 (k + 5) seen [] [a, b, c, d] 4 0 = spec_ResiduesOf.l0 (k + 1) seen [a % 24, b % 24, c % 24, d % 24] [a, b, c, d] 4 4 := by
  rw [spec_ResiduesOf.l0.eq_2, if_pos i04, if_pos i00, len4, if_pos i04, if_pos (by decide), r40, md24, w01]
  rw [spec_ResiduesOf.l0.eq_2, if_pos i14, if_pos i01, len4, if_pos i14, if_pos (by simp), r41, md24, w12]
  rw [spec_ResiduesOf.l0.eq_2, if_pos i24, if_pos i02, len4, if_pos i24, if_pos (by simp), r42, md24, w23]
  rw [spec_ResiduesOf.l0.eq_2, if_pos i34, if_pos i03, len4, if_pos i34, if_pos (by simp), r43, md24, w34]
  rfl
/-- Both answers. -/
theorem both6 (l : List Int) (hl : (l.length : Int) ≤ 9223372036854775806) : ∃ (p : List Int) (b : Bool), p.length ≤ 24 ∧ Ev (fun k => spec_ResiduesOf.f k l) (p, b) ∧ Ev (fun k => impl_ResiduesOf.f k l) (p, b) := by
  have hu := isQuad_ev l
  have ht := apGood_ev l hl
  by_cases hq : quadB l = true
  · obtain ⟨a, b, c, d, rfl, h0, h1, h2, h3, _⟩ := quadB_iff.1 hq
    rw [hq] at ht hu
    obtain ⟨g, e1, e2⟩ := scale_ev a b c d h0 h1 h2 h3
    by_cases hg : g = 1
    · subst hg
      have hv : Vq [a % 24, b % 24, c % 24, d % 24] := vq_mk (by omega) (by omega) (by omega) (by omega)
      have hcb := cdi_b hv
      obtain ⟨R, hR, s1, m1⟩ := bfs6 331776 0 [[a % 24, b % 24, c % 24, d % 24]] _ (List.replicate 24 false) (by omega) (inv6_start hv) (by simp)
      refine ⟨selB 0 R, true, by have := selB_len R 0; omega, ?_, ?_⟩
      · unfold spec_ResiduesOf.f
        refine Ev.bind ht ?_
        simp only [if_true]
        refine Ev.bind e1 ?_
        refine Ev.step (fun k => spec_ResiduesOf.j0.eq_2 ..) ?_
        simp only [bne_self_eq_false, Bool.false_eq_true, if_false, if_pos (show (331776 : Nat) ≤ 281474976710656 by decide)]
        have key : Ev (fun k => spec_ResiduesOf.l0 (k + 1) (List.replicate 331776 false) [a % 24, b % 24, c % 24, d % 24] [a, b, c, d] 4 4) (selB 0 R, true) := by
          simp only [spec_ResiduesOf.l0, if_neg i44, if_pos (show ([] : List (List Int)).length < 5864062014805 by decide)]
          refine Ev.bind (apCode_ev hv) ?_
          simp only [List.length_replicate, if_pos hcb.1, if_pos (show cdi [a % 24, b % 24, c % 24, d % 24] < ((331776 : Nat) : Int) by omega)]
          exact s1
        obtain ⟨K, hK⟩ := key
        refine Ev.from (K + 5) (fun k hk => ?_)
        obtain ⟨k, rfl⟩ : ∃ m, k = m + 5 := ⟨k - 5, by omega⟩
        exact (start6 k _).trans (hK k (by omega))
      · unfold impl_ResiduesOf.f
        refine Ev.bind hu ?_
        simp only [if_true]
        refine Ev.bind e2 ?_
        simp only [if_pos (rfl : (1 : Int) = 1), if_pos (rfl : ([a, b, c, d] : List Int).length = 4)]
        exact m1
    · refine ⟨[], false, by simp, ?_, ?_⟩
      · unfold spec_ResiduesOf.f
        refine Ev.bind ht ?_
        simp only [if_true]
        refine Ev.bind e1 ?_
        refine Ev.step (fun k => spec_ResiduesOf.j0.eq_2 ..) ?_
        simp only [if_pos (show (g != 1) = true by simp [bne, hg])]
        exact Ev.now _
      · unfold impl_ResiduesOf.f
        refine Ev.bind hu ?_
        simp only [if_true]
        refine Ev.bind e2 ?_
        simp only [if_neg hg]
        exact Ev.now _
  · refine ⟨[], false, by simp, ?_, ?_⟩
    · unfold spec_ResiduesOf.f
      refine Ev.bind ht ?_
      simp only [if_neg hq]
      refine Ev.step (fun k => spec_ResiduesOf.j0.eq_2 ..) ?_
      simp only [if_true]
      exact Ev.now _
    · unfold impl_ResiduesOf.f
      refine Ev.bind hu ?_
      simp only [if_neg hq]
      exact Ev.now _

end Go.Proofs.Ytaebcdonekpbiaa.P
