import Derived.Test.YtkllcinoodfffaaP0
import Derived.Test.YtkllcinoodfffaaP1
import Derived.Test.YtkllcinoodfffaaP2
import Derived.Test.YtkllcinoodfffaaP3
import Derived.Test.YtkllcinoodfffaaP4
import Derived.Test.YtkllcinoodfffaaP7
import Derived.Test.YtkllcinoodfffaaP8
import Derived.Test.YtkllcinoodfffaaP9
import Derived.Test.YtkllcinoodfffaaP10
import Derived.Laws.BitsAllLaws
namespace Go.Proofs.Ytkllcinoodfffaa.P
open Go.RowKit Go.Proofs.YtkllcinoodfffaaW.PrintWords Go.Proofs.YtkllcinoodfffaaW.PrintLast Go.Proofs.YtkllcinoodfffaaW.PrintMore
theorem wrap_id {x : Int} (h0 : -9223372036854775808 ≤ x) (h1 : x ≤ 9223372036854775807) : wrap64 x = x := by unfold wrap64; omega
theorem rdi_at {l : List Int} {i : Nat} (h : i < l.length) : rd l (i : Int) = l[i] := by simp [rd, List.getD_eq_getElem?_getD, List.getElem?_eq_getElem h]
theorem l1In_f (x lo hi : Int) : spec_l1In.f x lo hi = some (inB lo hi x) := by
  unfold spec_l1In.f inB
  by_cases h : x ≥ lo
  · rw [if_pos h]; simp [show lo ≤ x from h]
  · rw [if_neg h]; simp [show ¬ lo ≤ x from h]
theorem inB_iff {lo hi x : Int} : inB lo hi x = true ↔ lo ≤ x ∧ x ≤ hi := by simp [inB]
theorem inB_of {lo hi x : Int} (h : lo ≤ x ∧ x ≤ hi) : inB lo hi x = true := inB_iff.2 h
theorem Ev.all {α : Type} {f : Option α} {r : α} (h : f = some r) : Ev (fun _ => f) r := ⟨0, fun _ _ => h⟩
theorem Ev.from {α : Type} {g : Nat → Option α} {r : α} (K : Nat) (h : ∀ k, K < k → g k = some r) : Ev g r := ⟨K + 1, fun k hk => h k (by omega)⟩
theorem l1All_l (lo hi : Int) (l : List Int) (hl : (l.length : Int) ≤ 9223372036854775806) (d : Nat) : ∀ (i k : Nat), i + d = l.length → d < k → spec_l1All.l0 k lo hi l (l.length : Int) (i : Int) = some ((l.drop i).all (inB lo hi)) := by
  induction d with
  | zero =>
    intro i k hi' hk
    obtain ⟨k, rfl⟩ : ∃ m, k = m + 1 := ⟨k - 1, by omega⟩
    simp only [spec_l1All.l0]
    rw [if_neg (by omega), List.drop_of_length_le (by omega)]
    rfl
  | succ d ih =>
    intro i k hi' hk
    obtain ⟨k, rfl⟩ : ∃ m, k = m + 1 := ⟨k - 1, by omega⟩
    have hil : i < l.length := by omega
    simp only [spec_l1All.l0]
    rw [if_pos (by omega), if_pos (by omega), if_pos (by omega), l1In_f, rdi_at hil, wrap_id (by omega) (by omega)]
    simp only [Option.bind_some]
    rw [List.drop_eq_getElem_cons hil, List.all_cons]
    cases inB lo hi l[i] with
    | false => simp
    | true =>
      simp only [if_true, Bool.true_and]
      exact ih (i + 1) k (by omega) (by omega)
theorem l1All_ev (lo hi : Int) (l : List Int) (hl : (l.length : Int) ≤ 9223372036854775806) : Ev (fun k => spec_l1All.f k l lo hi) (l.all (inB lo hi)) :=
  Ev.from l.length (fun k hk => by
    have := l1All_l lo hi l hl l.length 0 k (by omega) hk
    simpa [spec_l1All.f] using this)
def bnd (x : Int) : Prop := -1000000 ≤ x ∧ x ≤ 1000000
theorem sqb {a b A B : Int} (h0 : -A ≤ a) (h1 : a ≤ A) (h2 : -B ≤ b) (h3 : b ≤ B) : -(A * B) ≤ a * b ∧ a * b ≤ A * B := by
  have p1 := Int.mul_nonneg (show 0 ≤ A - a by omega) (show 0 ≤ B + b by omega)
  have p2 := Int.mul_nonneg (show 0 ≤ A + a by omega) (show 0 ≤ B - b by omega)
  have p3 := Int.mul_nonneg (show 0 ≤ A - a by omega) (show 0 ≤ B - b by omega)
  have p4 := Int.mul_nonneg (show 0 ≤ A + a by omega) (show 0 ≤ B + b by omega)
  constructor <;> grind
theorem isC_iff (x : S25) : isC x = true ↔ (bnd x.f0 ∧ bnd x.f1 ∧ bnd x.f2 ∧ bnd x.f3) ∧ x.f2 * x.f2 + x.f3 * x.f3 - x.f0 * x.f1 = 1 := by
  unfold isC bnd
  simp only [List.all_cons, List.all_nil, Bool.and_true, Bool.and_eq_true, inB_iff, beq_iff_eq]
  constructor
  · rintro ⟨⟨h0, h1, h2, h3⟩, h⟩
    have a := sqb (A := 1000000) (B := 1000000) (by omega) h0.2 (by omega) h1.2
    have b := sqb (A := 1000000) (B := 1000000) (by omega) h2.2 (by omega) h2.2
    have c := sqb (A := 1000000) (B := 1000000) (by omega) h3.2 (by omega) h3.2
    rw [wrap_id (x := x.f2 * x.f2) (by omega) (by omega), wrap_id (x := x.f3 * x.f3) (by omega) (by omega), wrap_id (x := x.f0 * x.f1) (by omega) (by omega), wrap_id (x := x.f2 * x.f2 + x.f3 * x.f3) (by omega) (by omega), wrap_id (by omega) (by omega)] at h
    exact ⟨⟨h0, h1, h2, h3⟩, h⟩
  · rintro ⟨⟨h0, h1, h2, h3⟩, h⟩
    have a := sqb (A := 1000000) (B := 1000000) (by omega) h0.2 (by omega) h1.2
    have b := sqb (A := 1000000) (B := 1000000) (by omega) h2.2 (by omega) h2.2
    have c := sqb (A := 1000000) (B := 1000000) (by omega) h3.2 (by omega) h3.2
    rw [wrap_id (x := x.f2 * x.f2) (by omega) (by omega), wrap_id (x := x.f3 * x.f3) (by omega) (by omega), wrap_id (x := x.f0 * x.f1) (by omega) (by omega), wrap_id (x := x.f2 * x.f2 + x.f3 * x.f3) (by omega) (by omega), wrap_id (x := x.f2 * x.f2 + x.f3 * x.f3 - x.f0 * x.f1) (by omega) (by omega)]
    exact ⟨⟨h0, h1, h2, h3⟩, h⟩
theorem ciGood_ev (a b c d : Int) : Ev (fun k => spec_ciGood.f k a b c d) (isC ⟨a, b, c, d⟩) := by
  have h := l1All_ev (-1000000) 1000000 [a, b, c, d] (by simp)
  unfold spec_ciGood.f
  refine Ev.bind h ?_
  unfold isC
  cases ([a, b, c, d] : List Int).all (inB (-1000000) 1000000) with
  | true => simp only [if_true]; exact Ev.now _
  | false => simp only [Bool.false_eq_true, if_false]; exact Ev.now _
/-- bounds alone: what 'drawn' asks. -/
def inC (x : S25) : Bool := ([x.f0, x.f1, x.f2, x.f3] : List Int).all (inB (-1000000) 1000000)
theorem inC_iff (x : S25) : inC x = true ↔ bnd x.f0 ∧ bnd x.f1 ∧ bnd x.f2 ∧ bnd x.f3 := by
  unfold inC bnd
  simp only [List.all_cons, List.all_nil, Bool.and_true, Bool.and_eq_true, inB_iff]
theorem drawn_f (a b c d : Int) : impl_drawn.f a b c d = some (if inC ⟨a, b, c, d⟩ = true then (a, b, c, d, true) else (0, 0, 0, 0, false)) := by
  unfold impl_drawn.f impl_Circle_numbers.f impl_allWithin.f inC
  simp only [Option.bind_some]
  cases ([a, b, c, d] : List Int).all (inB (-1000000) 1000000) with
  | true => rfl
  | false => rfl
theorem ciIf_ev (a b c d : Int) : Ev (fun k => spec_ciIf.f k a b c d) (if isC ⟨a, b, c, d⟩ = true then (a, b, c, d, true) else (0, 0, 0, 0, false)) := by
  unfold spec_ciIf.f
  refine Ev.bind (ciGood_ev a b c d) ?_
  cases isC ⟨a, b, c, d⟩ with
  | true => simp only [if_true]; exact Ev.now _
  | false => simp only [Bool.false_eq_true, if_false]; exact Ev.now _
theorem isC_of {a b c d : Int} (h : c * c + d * d - a * b = 1) : isC ⟨a, b, c, d⟩ = inC ⟨a, b, c, d⟩ := by
  rw [Bool.eq_iff_iff, isC_iff, inC_iff]
  exact ⟨fun q => q.1, fun q => ⟨q, h⟩⟩
theorem l1Abs_f (x : Int) (h0 : -9223372036854775807 ≤ x) (h1 : x ≤ 9223372036854775807) : spec_l1Abs.f x = some (x.natAbs : Int) := by
  unfold spec_l1Abs.f spec_l1Most.f
  rw [wrap_id (by omega) (by omega)]
  by_cases h : x > -x
  · rw [if_pos h]
    exact congrArg some (by omega)
  · rw [if_neg h]
    exact congrArg some (by omega)
theorem ciFits_f {t d : Int} (h0 : -9223372036854775807 ≤ t) (h1 : t ≤ 9223372036854775807) (h2 : -9223372036854775807 ≤ d) (h3 : d ≤ 9223372036854775807) : spec_ciFits.f t d = some (decide (-10000000 ≤ t * d ∧ t * d ≤ 10000000)) := by
  unfold spec_ciFits.f
  by_cases h : t = 0
  · subst h
    rw [if_pos rfl]
    simp
  · rw [if_neg h, l1Abs_f t h0 h1, l1Abs_f d h2 h3]
    simp only [Option.bind_some]
    rw [if_neg (by omega)]
    have hq := Int.ediv_le_self (a := 10000000) (t.natAbs : Int) (by decide)
    have hq0 := Int.ediv_nonneg (a := 10000000) (b := (t.natAbs : Int)) (by decide) (by omega)
    rw [wrap_id (by omega) (by omega)]
    refine congrArg some (decide_eq_decide.2 ?_)
    rw [Int.le_ediv_iff_mul_le (by omega)]
    have he : (d.natAbs : Int) * (t.natAbs : Int) = ((t * d).natAbs : Int) := by rw [Int.natAbs_mul, Int.natCast_mul, Int.mul_comm]
    rw [he]
    omega
/-- the twice product, in whole numbers -/
def twi (x y : S25) : Int := 2 * x.f2 * y.f2 + 2 * x.f3 * y.f3 - x.f0 * y.f1 - x.f1 * y.f0
theorem twi_b {x y : S25} (hx : bnd x.f0 ∧ bnd x.f1 ∧ bnd x.f2 ∧ bnd x.f3) (hy : bnd y.f0 ∧ bnd y.f1 ∧ bnd y.f2 ∧ bnd y.f3) : -6000000000000 ≤ twi x y ∧ twi x y ≤ 6000000000000 ∧ impl_twice.f x.f0 x.f1 x.f2 x.f3 y.f0 y.f1 y.f2 y.f3 = some (twi x y) := by
  unfold bnd at hx hy
  have a := sqb (a := 2 * x.f2) (b := y.f2) (A := 2000000) (B := 1000000) (by omega) (by omega) (by omega) (by omega)
  have b := sqb (a := 2 * x.f3) (b := y.f3) (A := 2000000) (B := 1000000) (by omega) (by omega) (by omega) (by omega)
  have c := sqb (a := x.f0) (b := y.f1) (A := 1000000) (B := 1000000) (by omega) (by omega) (by omega) (by omega)
  have d := sqb (a := x.f1) (b := y.f0) (A := 1000000) (B := 1000000) (by omega) (by omega) (by omega) (by omega)
  refine ⟨by unfold twi; omega, by unfold twi; omega, ?_⟩
  unfold impl_twice.f twi
  rw [wrap_id (x := 2 * x.f2) (by omega) (by omega), wrap_id (x := 2 * x.f3) (by omega) (by omega), wrap_id (x := 2 * x.f2 * y.f2) (by omega) (by omega), wrap_id (x := 2 * x.f3 * y.f3) (by omega) (by omega), wrap_id (x := x.f0 * y.f1) (by omega) (by omega), wrap_id (x := x.f1 * y.f0) (by omega) (by omega), wrap_id (x := 2 * x.f2 * y.f2 + 2 * x.f3 * y.f3) (by omega) (by omega), wrap_id (x := 2 * x.f2 * y.f2 + 2 * x.f3 * y.f3 - x.f0 * y.f1) (by omega) (by omega), wrap_id (x := 2 * x.f2 * y.f2 + 2 * x.f3 * y.f3 - x.f0 * y.f1 - x.f1 * y.f0) (by omega) (by omega)]
theorem reflect_eq {a b c d e f g h t : Int} (h1 : c * c + d * d - a * b = 1) (h2 : g * g + h * h - e * f = 1) (ht : t = 2 * c * g + 2 * d * h - a * f - b * e) :
    (c - t * g) * (c - t * g) + (d - t * h) * (d - t * h) - (a - t * e) * (b - t * f) = 1 := by
  subst ht
  grind
theorem ciTwice_f (a b c d e f g h : Int) : spec_ciTwice.f a b c d e f g h = impl_twice.f a b c d e f g h := rfl
theorem rdC_at {l : List S25} {i : Nat} (h : i < l.length) : rd_T25 l (i : Int) = l[i] := by simp [rd_T25, List.getD_eq_getElem?_getD, List.getElem?_eq_getElem h]
def bndC (x : S25) : Prop := bnd x.f0 ∧ bnd x.f1 ∧ bnd x.f2 ∧ bnd x.f3
theorem twice_f {x y : S25} (hx : bndC x) (hy : bndC y) : impl_twice.f x.f0 x.f1 x.f2 x.f3 y.f0 y.f1 y.f2 y.f3 = some (twi x y) := (twi_b hx hy).2.2
theorem isC_bnd {x : S25} (h : isC x = true) : bndC x := ((isC_iff x).1 h).1
def tk (g : S25 → Int) (l : List S25) (j : Nat) : Int := ((l.take j).map g).sum
theorem tk_succ (g : S25 → Int) (l : List S25) {j : Nat} (h : j < l.length) : tk g l (j + 1) = tk g l j + g l[j] := by
  unfold tk
  rw [List.take_succ_eq_append_getElem h, List.map_append, List.sum_append]
  simp only [List.map_cons, List.map_nil, List.sum_cons, List.sum_nil, Int.add_zero]
theorem tk_b (g : S25 → Int) (l : List S25) (hb : ∀ x ∈ l, bnd (g x)) : ∀ j, j ≤ l.length → -(1000000 * (j : Int)) ≤ tk g l j ∧ tk g l j ≤ 1000000 * (j : Int) := by
  intro j
  induction j with
  | zero => intro _; simp [tk]
  | succ j ih =>
    intro h
    have h1 := ih (by omega)
    have h2 := hb l[j] (List.getElem_mem (show j < l.length by omega))
    unfold bnd at h2
    rw [tk_succ g l (by omega)]
    omega
/-- one number behind a swap -/
def cp (g : S25 → Int) (l : List S25) (i : Nat) : Int := 2 * (tk g l l.length - g (l.getD i z25)) - g (l.getD i z25)
def nc (l : List S25) (i : Nat) : S25 := ⟨cp S25.f0 l i, cp S25.f1 l i, cp S25.f2 l i, cp S25.f3 l i⟩
def swc (l : List S25) (i : Nat) : List S25 := l.set i (nc l i)
/-- the sum of the others so far -/
def os (g : S25 → Int) (l : List S25) (i j : Nat) : Int := tk g l j - (if i < j then g (l.getD i z25) else 0)
theorem gd {l : List S25} {i : Nat} (h : i < l.length) : l.getD i z25 = l[i] := by simp [List.getD_eq_getElem?_getD, List.getElem?_eq_getElem h]
theorem os_self (g : S25 → Int) (l : List S25) {i : Nat} (h : i < l.length) : os g l i (i + 1) = os g l i i := by
  unfold os
  rw [tk_succ g l h, if_pos (by omega), if_neg (by omega), gd h]
  omega
theorem os_other (g : S25 → Int) (l : List S25) {i j : Nat} (h : j < l.length) (hij : j ≠ i) : os g l i (j + 1) = os g l i j + g l[j] := by
  unfold os
  rw [tk_succ g l h]
  by_cases h1 : i < j
  · rw [if_pos h1, if_pos (by omega)]; omega
  · rw [if_neg h1, if_neg (by omega)]; omega
theorem os_b (g : S25 → Int) (l : List S25) (hl : l.length = 4) (hb : ∀ x ∈ l, bnd (g x)) {i : Nat} (hi : i < 4) (j : Nat) (hj : j ≤ 4) : -5000000 ≤ os g l i j ∧ os g l i j ≤ 5000000 := by
  have h1 := tk_b g l hb j (by omega)
  have h2 := hb (l.getD i z25) (by rw [gd (by omega)]; exact List.getElem_mem _)
  unfold bnd at h2
  unfold os
  split <;> omega
theorem ciSwap_l (l : List S25) (hl : l.length = 4) (hb : ∀ x ∈ l, bndC x) {i : Nat} (hi : i < 4) (d : Nat) : ∀ j, j + d = 4 →
    Ev (fun k => spec_ciSwap.l0 k l (i : Int) l l 4 (j : Int) (os S25.f0 l i j) (os S25.f1 l i j) (os S25.f2 l i j) (os S25.f3 l i j)) (swc l i) := by
  have b0 : ∀ x ∈ l, bnd (S25.f0 x) := fun x hx => (hb x hx).1
  have b1 : ∀ x ∈ l, bnd (S25.f1 x) := fun x hx => (hb x hx).2.1
  have b2 : ∀ x ∈ l, bnd (S25.f2 x) := fun x hx => (hb x hx).2.2.1
  have b3 : ∀ x ∈ l, bnd (S25.f3 x) := fun x hx => (hb x hx).2.2.2
  induction d with
  | zero =>
    intro j hj
    obtain rfl : j = 4 := by omega
    refine Ev.step (f := fun _ => some (swc l i)) (fun k => ?_) (Ev.now _)
    have q0 := os_b S25.f0 l hl b0 hi 4 (by omega)
    have q1 := os_b S25.f1 l hl b1 hi 4 (by omega)
    have q2 := os_b S25.f2 l hl b2 hi 4 (by omega)
    have q3 := os_b S25.f3 l hl b3 hi 4 (by omega)
    obtain ⟨c0, c1, c2, c3⟩ := hb (l.getD i z25) (by rw [gd (by omega)]; exact List.getElem_mem _)
    unfold bnd at c0 c1 c2 c3
    have hr : rd_T25 l (i : Int) = l.getD i z25 := by rw [rdC_at (by omega), gd (by omega)]
    simp only [spec_ciSwap.l0, hl]
    rw [if_neg (by omega), if_pos (by omega), if_pos (by omega), if_pos (by omega), hr]
    rw [wrap_id (x := 2 * os S25.f0 l i 4) (by omega) (by omega), wrap_id (x := 2 * os S25.f1 l i 4) (by omega) (by omega), wrap_id (x := 2 * os S25.f2 l i 4) (by omega) (by omega), wrap_id (x := 2 * os S25.f3 l i 4) (by omega) (by omega)]
    rw [wrap_id (x := 2 * os S25.f0 l i 4 - (l.getD i z25).f0) (by omega) (by omega), wrap_id (x := 2 * os S25.f1 l i 4 - (l.getD i z25).f1) (by omega) (by omega), wrap_id (x := 2 * os S25.f2 l i 4 - (l.getD i z25).f2) (by omega) (by omega), wrap_id (x := 2 * os S25.f3 l i 4 - (l.getD i z25).f3) (by omega) (by omega)]
    unfold swc nc cp os
    rw [hl, if_pos hi, if_pos hi, if_pos hi, if_pos hi]
    simp only [Int.toNat_natCast]
  | succ d ih =>
    intro j hj
    have hjl : j < l.length := by omega
    have h := ih (j + 1) (by omega)
    by_cases hij : j = i
    · subst hij
      rw [os_self _ _ hjl, os_self _ _ hjl, os_self _ _ hjl, os_self _ _ hjl] at h
      refine Ev.step (f := fun k => spec_ciSwap.l0 k l (j : Int) l l 4 ((j + 1 : Nat) : Int) (os S25.f0 l j j) (os S25.f1 l j j) (os S25.f2 l j j) (os S25.f3 l j j)) (fun k => ?_) h
      simp only [spec_ciSwap.l0]
      rw [if_pos (by omega), if_pos (by omega), if_pos (by omega), if_pos trivial, wrap_id (by omega) (by omega), show ((j : Int) + 1) = ((j + 1 : Nat) : Int) by omega]
    · have q0 := os_b S25.f0 l hl b0 hi j (by omega)
      have q1 := os_b S25.f1 l hl b1 hi j (by omega)
      have q2 := os_b S25.f2 l hl b2 hi j (by omega)
      have q3 := os_b S25.f3 l hl b3 hi j (by omega)
      obtain ⟨c0, c1, c2, c3⟩ := hb l[j] (List.getElem_mem _)
      unfold bnd at c0 c1 c2 c3
      rw [os_other _ _ hjl hij, os_other _ _ hjl hij, os_other _ _ hjl hij, os_other _ _ hjl hij] at h
      refine Ev.step (f := fun k => spec_ciSwap.l0 k l (i : Int) l l 4 ((j + 1 : Nat) : Int) (os S25.f0 l i j + l[j].f0) (os S25.f1 l i j + l[j].f1) (os S25.f2 l i j + l[j].f2) (os S25.f3 l i j + l[j].f3)) (fun k => ?_) h
      simp only [spec_ciSwap.l0]
      rw [if_pos (by omega), if_pos (by omega), if_pos (by omega), if_neg (by omega), rdC_at hjl, wrap_id (x := (j : Int) + 1) (by omega) (by omega), wrap_id (x := os S25.f0 l i j + l[j].f0) (by omega) (by omega), wrap_id (x := os S25.f1 l i j + l[j].f1) (by omega) (by omega), wrap_id (x := os S25.f2 l i j + l[j].f2) (by omega) (by omega), wrap_id (x := os S25.f3 l i j + l[j].f3) (by omega) (by omega), show ((j : Int) + 1) = ((j + 1 : Nat) : Int) by omega]
theorem ciSwap_ev (l : List S25) (hl : l.length = 4) (hb : ∀ x ∈ l, bndC x) {i : Nat} (hi : i < 4) : Ev (fun k => spec_ciSwap.f k l (i : Int)) (swc l i) := by
  have h := ciSwap_l l hl hb hi 4 0 (by omega)
  have z : ∀ g : S25 → Int, os g l i 0 = 0 := fun g => by unfold os tk; rw [if_neg (by omega)]; simp
  rw [z, z, z, z] at h
  unfold spec_ciSwap.f
  simp only [Option.bind_some, List.length_nil, List.nil_append, hl, if_pos (show 0 + 4 < 4398046511104 by decide)]
  exact h
def qf (x : S25) : Int := x.f2 * x.f2 + x.f3 * x.f3 - x.f0 * x.f1
def mix (x y z w : S25) : S25 := ⟨2 * (y.f0 + z.f0 + w.f0) - x.f0, 2 * (y.f1 + z.f1 + w.f1) - x.f1, 2 * (y.f2 + z.f2 + w.f2) - x.f2, 2 * (y.f3 + z.f3 + w.f3) - x.f3⟩
theorem tw_self (y : S25) : twi y y = 2 * qf y := by
  unfold twi qf
  grind
theorem isC_q {x : S25} (h : isC x = true) : qf x = 1 := ((isC_iff x).1 h).2
theorem isC_mix {x : S25} (h : qf x = 1) : isC x = inC x := by
  rw [Bool.eq_iff_iff, isC_iff, inC_iff]
  exact ⟨fun q => q.1, fun q => ⟨q, h⟩⟩
theorem tk4 (g : S25 → Int) (a b c d : S25) : tk g [a, b, c, d] 4 = g a + g b + g c + g d := by
  simp [tk]
  omega
theorem nc0 (a b c d : S25) : nc [a, b, c, d] 0 = mix a b c d := by
  unfold nc cp mix
  simp only [List.length_cons, List.length_nil, Nat.zero_add, Nat.reduceAdd, tk4, List.getD_cons_zero, S25.mk.injEq]
  omega
theorem nc1 (a b c d : S25) : nc [a, b, c, d] 1 = mix b a c d := by
  unfold nc cp mix
  simp only [List.length_cons, List.length_nil, Nat.zero_add, Nat.reduceAdd, tk4, List.getD_cons_succ, List.getD_cons_zero, S25.mk.injEq]
  omega
theorem nc2 (a b c d : S25) : nc [a, b, c, d] 2 = mix c a b d := by
  unfold nc cp mix
  simp only [List.length_cons, List.length_nil, Nat.zero_add, Nat.reduceAdd, tk4, List.getD_cons_succ, List.getD_cons_zero, S25.mk.injEq]
  omega
theorem nc3 (a b c d : S25) : nc [a, b, c, d] 3 = mix d a b c := by
  unfold nc cp mix
  simp only [List.length_cons, List.length_nil, Nat.zero_add, Nat.reduceAdd, tk4, List.getD_cons_succ, List.getD_cons_zero, S25.mk.injEq]
  omega
theorem swc_length (l : List S25) (i : Nat) : (swc l i).length = l.length := by simp [swc]
theorem shift_eq {a b c d x y : Int} (h : c * c + d * d - a * b = 1) : (c + b * x) * (c + b * x) + (d + b * y) * (d + b * y) - (a + 2 * (c * x + d * y) + b * (x * x + y * y)) * b = 1 := by grind
theorem u64w (x : Int) : 0 ≤ IntKind.u64.wrap x ∧ IntKind.u64.wrap x < 18446744073709551616 := by
  rw [IntKind.wrap_u64]
  omega
theorem and255 (X : Int) (h0 : 0 ≤ X) (h1 : X < 18446744073709551616) : 0 ≤ Go.bits .and .u64 X 255 ∧ Go.bits .and .u64 X 255 ≤ 255 := by
  rw [u64_and X 255 h0 h1 (by omega) (by omega)]
  have : X.toNat &&& (255 : Int).toNat ≤ (255 : Int).toNat := Nat.and_le_right
  omega
def Bytes (s : List Int) : Prop := ∀ x ∈ s, 0 ≤ x ∧ x ≤ 255
theorem next_ok {s : List Int} (hs : Bytes s) {a : Int} (z : Int) (h0 : 0 ≤ a) (h1 : a ≤ 1000000000) : ∃ x z', spec_l1Cur_next.f s a z = some (x, a + 1, z') ∧ 0 ≤ x ∧ x ≤ 255 := by
  unfold spec_l1Cur_next.f
  rw [wrap_id (x := a + 1) (by omega) (by omega)]
  have hb : ∀ y, 0 ≤ wrap64 (Go.bits .and .u64 (IntKind.u64.wrap y / 1099511627776) 255) ∧ wrap64 (Go.bits .and .u64 (IntKind.u64.wrap y / 1099511627776) 255) ≤ 255 := by
    intro y
    have h := u64w y
    have := and255 (IntKind.u64.wrap y / 1099511627776) (by omega) (by omega)
    rw [wrap_id (by omega) (by omega)]
    exact this
  by_cases c : a < s.length
  · have hr : 0 ≤ rd s a ∧ rd s a ≤ 255 := by
      obtain ⟨i, rfl⟩ : ∃ i : Nat, a = i := ⟨a.toNat, by omega⟩
      rw [rdi_at (by omega)]
      exact hs _ (List.getElem_mem _)
    rw [wrap_id (x := rd s a) (by omega) (by omega), if_pos c, if_pos h0]
    by_cases e : a + 1 ≤ s.length
    · rw [if_pos e]; exact ⟨_, _, rfl, hr⟩
    · rw [if_neg e]; exact ⟨_, _, rfl, hb _⟩
  · rw [if_neg c]
    by_cases e : a + 1 ≤ s.length
    · rw [if_pos e]; exact ⟨_, _, rfl, by omega, by omega⟩
    · rw [if_neg e]; exact ⟨_, _, rfl, hb _⟩
theorem pick_ok {s : List Int} (hs : Bytes s) {a : Int} (z : Int) (h0 : 0 ≤ a) (h1 : a ≤ 1000000000) {n : Int} (hn : n ≤ 200) : ∃ x a' z', spec_l1Cur_pick.f s a z n = some (x, a', z') ∧ 0 ≤ x ∧ (1 ≤ n → x < n) ∧ a ≤ a' ∧ a' ≤ a + 1 := by
  unfold spec_l1Cur_pick.f
  by_cases c : n ≤ 1
  · rw [if_pos c]; exact ⟨_, _, _, rfl, by omega, by omega, by omega, by omega⟩
  · obtain ⟨x, z', hx, x0, x1⟩ := next_ok hs z h0 h1
    rw [if_neg c, hx]
    simp only [Option.bind_some]
    rw [if_neg (by omega), if_neg (by omega), Int.tmod_eq_emod_of_nonneg x0]
    exact ⟨_, _, _, rfl, Int.emod_nonneg _ (by omega), fun _ => Int.emod_lt_of_pos _ (by omega), by omega, by omega⟩
theorem among_ok {s : List Int} (hs : Bytes s) {a : Int} (z : Int) (h0 : 0 ≤ a) (h1 : a ≤ 1000000000) {l : List Int} (hl : 0 < l.length) (h2 : l.length ≤ 200) : ∃ v a' z', spec_l1Cur_among.f s a z l = some (v, a', z') ∧ v ∈ l ∧ a ≤ a' ∧ a' ≤ a + 1 := by
  obtain ⟨x, a', z', hp, x0, xn, a0, a1⟩ := pick_ok hs z h0 h1 (n := (l.length : Int)) (by omega)
  have := xn (by omega)
  obtain ⟨i, rfl⟩ : ∃ i : Nat, x = i := ⟨x.toNat, by omega⟩
  refine ⟨l[i]'(by omega), a', z', ?_, List.getElem_mem _, a0, a1⟩
  unfold spec_l1Cur_among.f
  rw [hp]
  simp only [Option.bind_some]
  rw [if_pos (by omega), if_pos (by omega), rdi_at (by omega)]
theorem one_ok {s : List Int} (hs : Bytes s) {a : Int} (z : Int) (h0 : 0 ≤ a) (h1 : a ≤ 1000000000) {n : Int} (hn : n ≤ 200) : ∃ b a' z', spec_l1Cur_one.f s a z n = some (b, a', z') ∧ a ≤ a' ∧ a' ≤ a + 1 := by
  obtain ⟨x, a', z', hp, x0, xn, a0, a1⟩ := pick_ok hs z h0 h1 hn
  refine ⟨(x == 0), a', z', ?_, a0, a1⟩
  unfold spec_l1Cur_one.f
  rw [hp]
  rfl
def shS (a b c d x y : Int) : S25 := ⟨a + 2 * (c * x + d * y) + b * (x * x + y * y), b, c + b * x, d + b * y⟩
def shiftR (a b c d x y : Int) : Int × Int × Int × Int × Bool := if isC ⟨a, b, c, d⟩ = true ∧ inB (-1000) 1000 x = true ∧ inB (-1000) 1000 y = true ∧ isC (shS a b c d x y) = true then ((shS a b c d x y).f0, (shS a b c d x y).f1, (shS a b c d x y).f2, (shS a b c d x y).f3, true) else (0, 0, 0, 0, false)
theorem shift_spec (a b c d x y : Int) : Ev (fun k => spec_ShiftCircle.f k a b c d x y) (shiftR a b c d x y) := by
  unfold spec_ShiftCircle.f
  simp only [l1In_f, Option.bind_some]
  by_cases h : isC ⟨a, b, c, d⟩ = true
  · have hg := ciGood_ev a b c d
    rw [h] at hg
    by_cases hx : inB (-1000) 1000 x = true
    · simp only [if_pos hx]
      by_cases hy : inB (-1000) 1000 y = true
      · simp only [if_pos hy]
        have hh := h
        have hx' := hx
        have hy' := hy
        rw [isC_iff] at h
        obtain ⟨⟨h0, h1, h2, h3⟩, he⟩ := h
        rw [inB_iff] at hx hy
        simp only [bnd] at h0 h1 h2 h3
        have b1 := sqb (A := 1000000) (B := 1000) (by omega) h2.2 (by omega) hx.2
        have b2 := sqb (A := 1000000) (B := 1000) (by omega) h3.2 (by omega) hy.2
        have b3 := sqb (A := 1000) (B := 1000) (by omega) hx.2 (by omega) hx.2
        have b4 := sqb (A := 1000) (B := 1000) (by omega) hy.2 (by omega) hy.2
        have b5 := sqb (A := 1000000) (B := 1000) (by omega) h1.2 (by omega) hx.2
        have b6 := sqb (A := 1000000) (B := 1000) (by omega) h1.2 (by omega) hy.2
        have b7 := sqb (a := b) (b := x * x + y * y) (A := 1000000) (B := 2000000) (by omega) h1.2 (by omega) (by omega)
        rw [wrap_id (x := c * x) (by omega) (by omega), wrap_id (x := d * y) (by omega) (by omega), wrap_id (x := x * x) (by omega) (by omega), wrap_id (x := y * y) (by omega) (by omega), wrap_id (x := b * x) (by omega) (by omega), wrap_id (x := b * y) (by omega) (by omega), wrap_id (x := x * x + y * y) (by omega) (by omega), wrap_id (x := b * (x * x + y * y)) (by omega) (by omega), wrap_id (x := c * x + d * y) (by omega) (by omega), wrap_id (x := 2 * (c * x + d * y)) (by omega) (by omega), wrap_id (x := a + 2 * (c * x + d * y)) (by omega) (by omega), wrap_id (x := a + 2 * (c * x + d * y) + b * (x * x + y * y)) (by omega) (by omega), wrap_id (x := c + b * x) (by omega) (by omega), wrap_id (x := d + b * y) (by omega) (by omega)]
        have e : shiftR a b c d x y = if isC ⟨a + 2 * (c * x + d * y) + b * (x * x + y * y), b, c + b * x, d + b * y⟩ = true then (a + 2 * (c * x + d * y) + b * (x * x + y * y), b, c + b * x, d + b * y, true) else (0, 0, 0, 0, false) := by
          unfold shiftR
          by_cases hs : isC (shS a b c d x y) = true
          · rw [if_pos ⟨hh, hx', hy', hs⟩, if_pos (show isC ⟨a + 2 * (c * x + d * y) + b * (x * x + y * y), b, c + b * x, d + b * y⟩ = true from hs)]
            rfl
          · rw [if_neg (fun z => hs z.2.2.2), if_neg (show ¬ isC ⟨a + 2 * (c * x + d * y) + b * (x * x + y * y), b, c + b * x, d + b * y⟩ = true from hs)]
        rw [e]
        refine Ev.bind hg ?_
        simp only [if_true]
        exact Ev.bind (ciIf_ev _ _ _ _) (Ev.now _)
      · simp only [if_neg hy]
        have e : shiftR a b c d x y = (0, 0, 0, 0, false) := if_neg (fun z => hy z.2.2.1)
        rw [e]
        exact Ev.bind hg (by simp only [if_true]; exact Ev.now _)
    · simp only [if_neg hx]
      have e : shiftR a b c d x y = (0, 0, 0, 0, false) := if_neg (fun z => hx z.2.1)
      rw [e]
      exact Ev.bind hg (by simp only [if_true]; exact Ev.now _)
  · have hg := ciGood_ev a b c d
    have e : shiftR a b c d x y = (0, 0, 0, 0, false) := if_neg (fun z => h z.1)
    rw [e]
    exact Ev.bind hg (by simp only [if_neg h]; exact Ev.now _)
theorem shift_both (a b c d x y : Int) : Ev (fun k => spec_ShiftCircle.f k a b c d x y) (shiftR a b c d x y) ∧ impl_ShiftCircle.f a b c d x y = some (shiftR a b c d x y) := by
  unfold spec_ShiftCircle.f impl_ShiftCircle.f
  simp only [impl_isC, l1In_f, within_f, Option.bind_some]
  by_cases h : isC ⟨a, b, c, d⟩ = true
  · have hg := ciGood_ev a b c d
    rw [h] at hg
    simp only [if_pos h]
    by_cases hx : inB (-1000) 1000 x = true
    · simp only [if_pos hx]
      by_cases hy : inB (-1000) 1000 y = true
      · simp only [if_pos hy]
        have hh := h
        have hx' := hx
        have hy' := hy
        rw [isC_iff] at h
        obtain ⟨⟨h0, h1, h2, h3⟩, he⟩ := h
        rw [inB_iff] at hx hy
        simp only [bnd] at h0 h1 h2 h3
        have b1 := sqb (A := 1000000) (B := 1000) (by omega) h2.2 (by omega) hx.2
        have b2 := sqb (A := 1000000) (B := 1000) (by omega) h3.2 (by omega) hy.2
        have b3 := sqb (A := 1000) (B := 1000) (by omega) hx.2 (by omega) hx.2
        have b4 := sqb (A := 1000) (B := 1000) (by omega) hy.2 (by omega) hy.2
        have b5 := sqb (A := 1000000) (B := 1000) (by omega) h1.2 (by omega) hx.2
        have b6 := sqb (A := 1000000) (B := 1000) (by omega) h1.2 (by omega) hy.2
        have b7 := sqb (a := b) (b := x * x + y * y) (A := 1000000) (B := 2000000) (by omega) h1.2 (by omega) (by omega)
        rw [wrap_id (x := c * x) (by omega) (by omega), wrap_id (x := d * y) (by omega) (by omega), wrap_id (x := x * x) (by omega) (by omega), wrap_id (x := y * y) (by omega) (by omega), wrap_id (x := b * x) (by omega) (by omega), wrap_id (x := b * y) (by omega) (by omega), wrap_id (x := x * x + y * y) (by omega) (by omega), wrap_id (x := b * (x * x + y * y)) (by omega) (by omega), wrap_id (x := c * x + d * y) (by omega) (by omega), wrap_id (x := 2 * (c * x + d * y)) (by omega) (by omega), wrap_id (x := a + 2 * (c * x + d * y)) (by omega) (by omega), wrap_id (x := a + 2 * (c * x + d * y) + b * (x * x + y * y)) (by omega) (by omega), wrap_id (x := c + b * x) (by omega) (by omega), wrap_id (x := d + b * y) (by omega) (by omega)]
        rw [drawn_f, ← isC_of (shift_eq he)]
        have e : shiftR a b c d x y = if isC ⟨a + 2 * (c * x + d * y) + b * (x * x + y * y), b, c + b * x, d + b * y⟩ = true then (a + 2 * (c * x + d * y) + b * (x * x + y * y), b, c + b * x, d + b * y, true) else (0, 0, 0, 0, false) := by
          unfold shiftR
          by_cases hs : isC (shS a b c d x y) = true
          · rw [if_pos ⟨hh, hx', hy', hs⟩, if_pos (show isC ⟨a + 2 * (c * x + d * y) + b * (x * x + y * y), b, c + b * x, d + b * y⟩ = true from hs)]
            rfl
          · rw [if_neg (fun z => hs z.2.2.2), if_neg (show ¬ isC ⟨a + 2 * (c * x + d * y) + b * (x * x + y * y), b, c + b * x, d + b * y⟩ = true from hs)]
        rw [e]
        refine ⟨Ev.bind hg ?_, rfl⟩
        simp only [if_true]
        exact Ev.bind (ciIf_ev _ _ _ _) (Ev.now _)
      · simp only [if_neg hy]
        have e : shiftR a b c d x y = (0, 0, 0, 0, false) := if_neg (fun z => hy z.2.2.1)
        rw [e]
        exact ⟨Ev.bind hg (by simp only [if_true]; exact Ev.now _), rfl⟩
    · simp only [if_neg hx]
      have e : shiftR a b c d x y = (0, 0, 0, 0, false) := if_neg (fun z => hx z.2.1)
      rw [e]
      exact ⟨Ev.bind hg (by simp only [if_true]; exact Ev.now _), rfl⟩
  · have hg := ciGood_ev a b c d
    simp only [if_neg h]
    have e : shiftR a b c d x y = (0, 0, 0, 0, false) := if_neg (fun z => h z.1)
    rw [e]
    exact ⟨Ev.bind hg (by simp only [if_neg h]; exact Ev.now _), rfl⟩
theorem conf_j2 {s : List Int} (hs : Bytes s) (q : List S25) (hq : q.length ≤ 4) {a : Int} (z : Int) (h0 : 0 ≤ a) (h1 : a ≤ 1000000) : ∃ r a' z', Ev (fun k => spec_l1Cur_config.j2 k q s a z) (r, a', z') ∧ r.length ≤ 5 ∧ a ≤ a' ∧ a' ≤ a + 4 := by
  obtain ⟨x, a1, z1, hp, x0, xn, p0, p1⟩ := pick_ok hs z h0 (by omega) (n := 20) (by omega)
  by_cases c0 : x = 0
  · by_cases cl : (q.length : Int) > 0
    · obtain ⟨i, a2, z2, hp2, i0, iN, p2, p3⟩ := pick_ok hs (a := a1) z1 (by omega) (by omega) (n := (q.length : Int)) (by omega)
      obtain ⟨y, a3, z3, hp3, y0, yN, p4, p5⟩ := pick_ok hs (a := a2) z2 (by omega) (by omega) (n := 3) (by omega)
      obtain ⟨v, a4, z4, hp4, v0, vN, p6, p7⟩ := pick_ok hs (a := a3) z3 (by omega) (by omega) (n := 3) (by omega)
      have := iN (by omega)
      refine ⟨_, a4, z4, Ev.step (f := fun _ => some (q.set (i : Int).toNat (⟨y, wrap64 (v - 1), 1, 0⟩ : S25), a4, z4)) (fun k => ?_) (Ev.now _), by simp; omega, by omega, by omega⟩
      rw [spec_l1Cur_config.j2, hp]
      simp only [Option.bind_some]
      rw [if_pos c0, if_pos cl, hp2]
      simp only [Option.bind_some]
      rw [hp3]
      simp only [Option.bind_some]
      rw [hp4]
      simp only [Option.bind_some]
      rw [if_pos i0, if_pos this]
    · refine ⟨q, a1, z1, Ev.step (f := fun _ => some (q, a1, z1)) (fun k => ?_) (Ev.now _), by omega, by omega, by omega⟩
      rw [spec_l1Cur_config.j2, hp]
      simp only [Option.bind_some]
      rw [if_pos c0, if_neg cl]
  · by_cases c1 : x = 1
    · refine ⟨_, a1, z1, Ev.step (f := fun _ => some (q ++ [(⟨0, 0, 0, 1⟩ : S25)], a1, z1)) (fun k => ?_) (Ev.now _), by simp; omega, by omega, by omega⟩
      rw [spec_l1Cur_config.j2, hp]
      simp only [Option.bind_some]
      rw [if_neg c0, if_pos c1, if_pos (by omega)]
    · by_cases c2 : x = 2
      · refine ⟨[], a1, z1, Ev.step (f := fun _ => some ([], a1, z1)) (fun k => ?_) (Ev.now _), by simp, by omega, by omega⟩
        rw [spec_l1Cur_config.j2, hp]
        simp only [Option.bind_some]
        rw [if_neg c0, if_neg c1, if_pos c2]
      · refine ⟨q, a1, z1, Ev.step (f := fun _ => some (q, a1, z1)) (fun k => ?_) (Ev.now _), by omega, by omega, by omega⟩
        rw [spec_l1Cur_config.j2, hp]
        simp only [Option.bind_some]
        rw [if_neg c0, if_neg c1, if_neg c2]
theorem conf_l1 {s : List Int} (hs : Bytes s) (q : List S25) (hq : q.length ≤ 4) (x y : Int) {a : Int} (z : Int) (h0 : 0 ≤ a) (h1 : a ≤ 1000000) (d : Nat) : ∀ (i : Nat) (o : List S25), i + d = q.length → o.length ≤ i → ∃ r a' z', Ev (fun k => spec_l1Cur_config.l1 k o x y q (q.length : Int) (i : Int) s a z) (r, a', z') ∧ r.length ≤ 5 ∧ a ≤ a' ∧ a' ≤ a + 4 := by
  induction d with
  | zero =>
    intro i o hi ho
    obtain ⟨r, a', z', he, hr, p0, p1⟩ := conf_j2 hs o (by omega) z h0 h1
    exact ⟨r, a', z', Ev.step (fun k => by rw [spec_l1Cur_config.l1, if_neg (by omega)]) he, hr, p0, p1⟩
  | succ d ih =>
    intro i o hi ho
    have hil : i < q.length := by omega
    have hsh := shift_spec q[i].f0 q[i].f1 q[i].f2 q[i].f3 x y
    have hst : ∀ k, spec_l1Cur_config.l1 (k + 1) o x y q (q.length : Int) (i : Int) s a z = (spec_ShiftCircle.f k q[i].f0 q[i].f1 q[i].f2 q[i].f3 x y).bind fun bt => (if bt.2.2.2.2 = true then (if o.length < 4398046511104 then (spec_l1Cur_config.l1 k (o ++ [(⟨bt.1, bt.2.1, bt.2.2.1, bt.2.2.2.1⟩ : S25)]) x y q (q.length : Int) ((i + 1 : Nat) : Int) s a z) else none) else (spec_l1Cur_config.l1 k o x y q (q.length : Int) ((i + 1 : Nat) : Int) s a z)) := by
      intro k
      rw [spec_l1Cur_config.l1, if_pos (by omega), if_pos (by omega), if_pos (by omega), rdC_at hil, wrap_id (by omega) (by omega)]
      rfl
    generalize shiftR q[i].f0 q[i].f1 q[i].f2 q[i].f3 x y = R at hsh
    by_cases hR : R.2.2.2.2 = true
    · obtain ⟨r, a', z', he, hr, p0, p1⟩ := ih (i + 1) (o ++ [(⟨R.1, R.2.1, R.2.2.1, R.2.2.2.1⟩ : S25)]) (by omega) (by simp; omega)
      refine ⟨r, a', z', Ev.step hst (Ev.bind hsh ?_), hr, p0, p1⟩
      simp only [if_pos hR, if_pos (show o.length < 4398046511104 by omega)]
      exact he
    · obtain ⟨r, a', z', he, hr, p0, p1⟩ := ih (i + 1) o (by omega) (by omega)
      refine ⟨r, a', z', Ev.step hst (Ev.bind hsh ?_), hr, p0, p1⟩
      simp only [if_neg hR]
      exact he
def bd (b : Nat) (x : S25) : Prop := (-(b : Int) ≤ x.f0 ∧ x.f0 ≤ b) ∧ (-(b : Int) ≤ x.f1 ∧ x.f1 ≤ b) ∧ (-(b : Int) ≤ x.f2 ∧ x.f2 ≤ b) ∧ (-(b : Int) ≤ x.f3 ∧ x.f3 ≤ b)
theorem bd_bnd {b : Nat} (hb : b ≤ 1000000) {x : S25} (h : bd b x) : bndC x := by
  unfold bd at h
  unfold bndC bnd
  omega
theorem four38 {l : List S25} (h : l.length = 4) : ∃ a b c d, l = [a, b, c, d] := by
  match l, h with
  | [a, b, c, d], _ => exact ⟨a, b, c, d, rfl⟩
theorem bd_mix {b : Nat} {x y z w : S25} (hx : bd b x) (hy : bd b y) (hz : bd b z) (hw : bd b w) : bd (7 * b) (mix x y z w) := by
  unfold bd mix at *
  simp only
  omega
theorem bd_up {b : Nat} {x : S25} (h : bd b x) : bd (7 * b) x := by
  unfold bd at *
  omega
theorem swc_bd {b : Nat} {q : List S25} (hq : q.length = 4) (h : ∀ x ∈ q, bd b x) {i : Nat} (hi : i < 4) : ∀ x ∈ swc q i, bd (7 * b) x := by
  obtain ⟨a0, a1, a2, a3, rfl⟩ := four38 hq
  have h0 := h a0 (by simp)
  have h1 := h a1 (by simp)
  have h2 := h a2 (by simp)
  have h3 := h a3 (by simp)
  intro x hx
  unfold swc at hx
  have := List.mem_or_eq_of_mem_set hx
  rcases this with hm | rfl
  · exact bd_up (h x hm)
  · obtain rfl | rfl | rfl | rfl : i = 0 ∨ i = 1 ∨ i = 2 ∨ i = 3 := by omega
    · rw [nc0]; exact bd_mix h0 h1 h2 h3
    · rw [nc1]; exact bd_mix h1 h0 h2 h3
    · rw [nc2]; exact bd_mix h2 h0 h1 h3
    · rw [nc3]; exact bd_mix h3 h0 h1 h2
theorem conf_l0 {s : List Int} (hs : Bytes s) (n : Nat) : ∀ (q : List S25) (b : Nat) (a z : Int), q.length = 4 → (∀ x ∈ q, bd b x) → b * 7 ^ n ≤ 1000000 → n ≤ 100 → 0 ≤ a → a + n ≤ 100000 → ∃ r a' z', Ev (fun k => spec_l1Cur_config.l0 k q (n : Int) s a z) (r, a', z') ∧ r.length ≤ 5 ∧ a ≤ a' ∧ a' ≤ a + n + 10 := by
  induction n with
  | zero =>
    intro q b a z hq hb hB _ h0 h1
    obtain ⟨t, a1, z1, hp, p0, p1⟩ := one_ok hs z h0 (by omega) (n := 3) (by omega)
    by_cases ht : t = true
    · obtain ⟨x, a2, z2, hp2, x0, xN, p2, p3⟩ := pick_ok hs (a := a1) z1 (by omega) (by omega) (n := 5) (by omega)
      obtain ⟨y, a3, z3, hp3, y0, yN, p4, p5⟩ := pick_ok hs (a := a2) z2 (by omega) (by omega) (n := 5) (by omega)
      obtain ⟨r, a4, z4, he, hr, p6, p7⟩ := conf_l1 hs q (by omega) (wrap64 (x - 2)) (wrap64 (y - 2)) (a := a3) z3 (by omega) (by omega) q.length 0 [] (by omega) (by simp)
      refine ⟨r, a4, z4, Ev.step (fun k => ?_) he, hr, by omega, by omega⟩
      rw [spec_l1Cur_config.l0, if_neg (by omega), hp]
      simp only [Option.bind_some]
      rw [if_pos ht, hp2]
      simp only [Option.bind_some]
      rw [hp3]
      rfl
    · obtain ⟨r, a4, z4, he, hr, p6, p7⟩ := conf_j2 hs q (by omega) (a := a1) z1 (by omega) (by omega)
      refine ⟨r, a4, z4, Ev.step (fun k => ?_) he, hr, by omega, by omega⟩
      rw [spec_l1Cur_config.l0, if_neg (by omega), hp]
      simp only [Option.bind_some]
      rw [if_neg ht]
  | succ n ih =>
    intro q b a z hq hb hB hn h0 h1
    have hB' : 7 * b * 7 ^ n ≤ 1000000 := by
      rw [Nat.pow_succ] at hB
      rw [Nat.mul_comm 7 b, Nat.mul_assoc, Nat.mul_comm 7]
      exact hB
    have hb6 : b ≤ 1000000 := by
      have : 0 < 7 ^ n := by first | exact Nat.pow_pos (by omega) | exact Nat.pos_pow_of_pos n (by omega) | exact Nat.pos_of_ne_zero (by simp)
      have := Nat.le_mul_of_pos_right (7 * b) this
      omega
    obtain ⟨x, a1, z1, hp, x0, xN, p0, p1⟩ := pick_ok hs z h0 (by omega) (n := 4) (by omega)
    have := xN (by omega)
    obtain ⟨i, rfl⟩ : ∃ i : Nat, x = i := ⟨x.toNat, by omega⟩
    have hsw := ciSwap_ev q hq (fun y hy => bd_bnd hb6 (hb y hy)) (i := i) (by omega)
    obtain ⟨r, a2, z2, he, hr, p2, p3⟩ := ih (swc q i) (7 * b) a1 z1 (by rw [swc_length]; exact hq) (swc_bd hq hb (by omega)) hB' (by omega) (by omega) (by omega)
    refine ⟨r, a2, z2, Ev.step (f := fun k => (spec_ciSwap.f k q (i : Int)).bind fun t => spec_l1Cur_config.l0 k t (n : Int) s a1 z1) (fun k => ?_) (Ev.bind hsw he), hr, by omega, by omega⟩
    rw [spec_l1Cur_config.l0, if_pos (by omega), hp]
    simp only [Option.bind_some]
    rw [wrap_id (by omega) (by omega), show ((n + 1 : Nat) : Int) - 1 = (n : Int) by omega]
theorem config_ok {s : List Int} (hs : Bytes s) {a : Int} (z : Int) (h0 : 0 ≤ a) (h1 : a ≤ 10000) : ∃ r a' z', Ev (fun k => spec_l1Cur_config.f k s a z) (r, a', z') ∧ r.length ≤ 5 ∧ a ≤ a' ∧ a' ≤ a + 20 := by
  obtain ⟨x, a1, z1, hp, x0, xN, p0, p1⟩ := pick_ok hs z h0 (by omega) (n := 2) (by omega)
  have := xN (by omega)
  obtain ⟨v, a2, z2, hp2, hv, p2, p3⟩ := among_ok hs (a := a1) z1 (by omega) (by omega) (l := [0, 0, 1, 2, 3, 5]) (by simp) (by simp)
  have hv' : 0 ≤ v ∧ v ≤ 5 := by
    simp only [List.mem_cons, List.not_mem_nil, or_false] at hv
    omega
  obtain ⟨n, rfl⟩ : ∃ n : Nat, v = n := ⟨v.toNat, by omega⟩
  obtain ⟨q, t, hst, hq4, hqb⟩ : ∃ q t, spec_StartConfig.f x = some (q, t) ∧ q.length = 4 ∧ ∀ y ∈ q, bd 4 y := by
    unfold spec_StartConfig.f
    by_cases c0 : x = 0
    · rw [if_pos c0]
      refine ⟨_, _, rfl, rfl, ?_⟩
      intro y hy
      simp only [List.mem_cons, List.not_mem_nil, or_false] at hy
      unfold bd
      rcases hy with rfl | rfl | rfl | rfl <;> simp
    · rw [if_neg c0, if_pos (show x = 1 by omega)]
      refine ⟨_, _, rfl, rfl, ?_⟩
      intro y hy
      simp only [List.mem_cons, List.not_mem_nil, or_false] at hy
      unfold bd
      rcases hy with rfl | rfl | rfl | rfl <;> simp
  have h7 : 4 * 7 ^ n ≤ 1000000 := by
    have := Nat.pow_le_pow_right (show 0 < 7 by omega) (show n ≤ 5 by omega)
    omega
  obtain ⟨r, a3, z3, he, hr, p4, p5⟩ := conf_l0 hs n q 4 a2 z2 hq4 hqb h7 (by omega) (by omega) (by omega)
  refine ⟨r, a3, z3, ?_, hr, by omega, by omega⟩
  unfold spec_l1Cur_config.f
  rw [hp]
  simp only [Option.bind_some]
  rw [hst]
  simp only [Option.bind_some]
  rw [hp2]
  exact he
def tpR (x y : S25) : Int × Bool := if isC x = true ∧ isC y = true then (twi x y, true) else (0, false)
theorem arec (x y : S25) : impl_areCircles.f [x, y] = some (isC x && isC y) := by
  unfold impl_areCircles.f
  simp only [List.all_cons, List.all_nil, Bool.and_true]
theorem tpI (x y : S25) : impl_TwiceProduct.f x.f0 x.f1 x.f2 x.f3 y.f0 y.f1 y.f2 y.f3 = some (tpR x y) := by
  unfold impl_TwiceProduct.f tpR
  rw [arec]
  simp only [Option.bind_some]
  by_cases hx : isC x = true
  · by_cases hy : isC y = true
    · rw [if_pos (by rw [hx, hy]; rfl), if_pos ⟨hx, hy⟩, twice_f (isC_bnd hx) (isC_bnd hy)]
      rfl
    · rw [if_neg (by rw [Bool.and_eq_true]; exact fun h => hy h.2), if_neg (fun h => hy h.2)]
  · rw [if_neg (by rw [Bool.and_eq_true]; exact fun h => hx h.1), if_neg (fun h => hx h.1)]
theorem tpS (x y : S25) : Ev (fun k => spec_TwiceProduct.f k x.f0 x.f1 x.f2 x.f3 y.f0 y.f1 y.f2 y.f3) (tpR x y) := by
  have e1 := ciGood_ev x.f0 x.f1 x.f2 x.f3
  have e2 := ciGood_ev y.f0 y.f1 y.f2 y.f3
  unfold spec_TwiceProduct.f tpR
  by_cases hx : isC x = true
  · rw [show isC ⟨x.f0, x.f1, x.f2, x.f3⟩ = true from hx] at e1
    refine Ev.bind e1 ?_
    simp only [if_true]
    by_cases hy : isC y = true
    · rw [show isC ⟨y.f0, y.f1, y.f2, y.f3⟩ = true from hy] at e2
      refine Ev.bind e2 ?_
      simp only [if_true, ciTwice_f, twice_f (isC_bnd hx) (isC_bnd hy), Option.bind_some, if_pos (And.intro hx hy)]
      exact Ev.now _
    · rw [show isC ⟨y.f0, y.f1, y.f2, y.f3⟩ = false from Bool.eq_false_iff.2 hy] at e2
      refine Ev.bind e2 ?_
      simp only [Bool.false_eq_true, if_false, if_neg (fun h : isC x = true ∧ isC y = true => hy h.2)]
      exact Ev.now _
  · rw [show isC ⟨x.f0, x.f1, x.f2, x.f3⟩ = false from Bool.eq_false_iff.2 hx] at e1
    refine Ev.bind e1 ?_
    simp only [Bool.false_eq_true, if_false, if_neg (fun h : isC x = true ∧ isC y = true => hx h.1)]
    exact Ev.now _
def dtR (x y : S25) : Bool × Bool := if isC x = true ∧ isC y = true then ((twi x y == (-2)), true) else (false, false)
theorem dtI (x y : S25) : impl_DoTouch.f x.f0 x.f1 x.f2 x.f3 y.f0 y.f1 y.f2 y.f3 = some (dtR x y) := by
  unfold impl_DoTouch.f dtR
  rw [arec]
  simp only [Option.bind_some]
  by_cases hx : isC x = true
  · by_cases hy : isC y = true
    · rw [if_pos (by rw [hx, hy]; rfl), if_pos ⟨hx, hy⟩, twice_f (isC_bnd hx) (isC_bnd hy)]
      rfl
    · rw [if_neg (by rw [Bool.and_eq_true]; exact fun h => hy h.2), if_neg (fun h => hy h.2)]
  · rw [if_neg (by rw [Bool.and_eq_true]; exact fun h => hx h.1), if_neg (fun h => hx h.1)]
theorem dtS (x y : S25) : Ev (fun k => spec_DoTouch.f k x.f0 x.f1 x.f2 x.f3 y.f0 y.f1 y.f2 y.f3) (dtR x y) := by
  have e1 := ciGood_ev x.f0 x.f1 x.f2 x.f3
  have e2 := ciGood_ev y.f0 y.f1 y.f2 y.f3
  unfold spec_DoTouch.f dtR
  by_cases hx : isC x = true
  · rw [show isC ⟨x.f0, x.f1, x.f2, x.f3⟩ = true from hx] at e1
    refine Ev.bind e1 ?_
    simp only [if_true]
    by_cases hy : isC y = true
    · rw [show isC ⟨y.f0, y.f1, y.f2, y.f3⟩ = true from hy] at e2
      refine Ev.bind e2 ?_
      simp only [if_true, ciTwice_f, twice_f (isC_bnd hx) (isC_bnd hy), Option.bind_some, if_pos (And.intro hx hy)]
      exact Ev.now _
    · rw [show isC ⟨y.f0, y.f1, y.f2, y.f3⟩ = false from Bool.eq_false_iff.2 hy] at e2
      refine Ev.bind e2 ?_
      simp only [Bool.false_eq_true, if_false, if_neg (fun h : isC x = true ∧ isC y = true => hy h.2)]
      exact Ev.now _
  · rw [show isC ⟨x.f0, x.f1, x.f2, x.f3⟩ = false from Bool.eq_false_iff.2 hx] at e1
    refine Ev.bind e1 ?_
    simp only [Bool.false_eq_true, if_false, if_neg (fun h : isC x = true ∧ isC y = true => hx h.1)]
    exact Ev.now _
def trn (x : S25) : S25 := ⟨x.f0, x.f1, -x.f3, x.f2⟩
def flp (x : S25) : S25 := ⟨x.f0, x.f1, -x.f2, x.f3⟩
theorem isC_trn {x : S25} (h : isC x = true) : isC (trn x) = true := by
  rw [isC_iff] at h ⊢
  simp only [trn, bnd, Int.neg_mul_neg] at h ⊢
  omega
theorem isC_flp {x : S25} (h : isC x = true) : isC (flp x) = true := by
  rw [isC_iff] at h ⊢
  simp only [flp, bnd, Int.neg_mul_neg] at h ⊢
  omega
theorem twi_trn (x y : S25) : twi (trn x) (trn y) = twi x y := by unfold twi trn; grind
theorem twi_flp (x y : S25) : twi (flp x) (flp y) = twi x y := by unfold twi flp; grind
theorem trnI {x : S25} (h : isC x = true) : impl_TurnCircle.f x.f0 x.f1 x.f2 x.f3 = some ((trn x).f0, (trn x).f1, (trn x).f2, (trn x).f3, true) := by
  have hb := ((isC_iff x).1 h).1
  simp only [bnd] at hb
  unfold impl_TurnCircle.f trn
  rw [impl_isC]
  simp only [Option.bind_some]
  rw [if_pos h, wrap_id (by omega) (by omega)]
theorem flpI {x : S25} (h : isC x = true) : impl_FlipCircle.f x.f0 x.f1 x.f2 x.f3 = some ((flp x).f0, (flp x).f1, (flp x).f2, (flp x).f3, true) := by
  have hb := ((isC_iff x).1 h).1
  simp only [bnd] at hb
  unfold impl_FlipCircle.f flp
  rw [impl_isC]
  simp only [Option.bind_some]
  rw [if_pos h, wrap_id (by omega) (by omega)]
def shv (x : S25) (i j : Int) : S25 := shS x.f0 x.f1 x.f2 x.f3 i j
theorem twi_sh (x y : S25) (i j : Int) : twi (shv x i j) (shv y i j) = twi x y := by unfold twi shv shS; grind
theorem sh_back (x : S25) (i j : Int) : shv (shv x i j) (-i) (-j) = x := by
  cases x
  unfold shv shS
  simp only [S25.mk.injEq]
  grind
def shR (x : S25) (i j : Int) : Int × Int × Int × Int × Bool := shiftR x.f0 x.f1 x.f2 x.f3 i j
theorem shR_true {x : S25} {i j : Int} (h : (shR x i j).2.2.2.2 = true) : (isC x = true ∧ inB (-1000) 1000 i = true ∧ inB (-1000) 1000 j = true ∧ isC (shv x i j) = true) ∧ shR x i j = ((shv x i j).f0, (shv x i j).f1, (shv x i j).f2, (shv x i j).f3, true) := by
  unfold shR shiftR at h ⊢
  split at h
  · rename_i hc
    exact ⟨hc, if_pos hc⟩
  · exact absurd h (by decide)
theorem shR_of {x : S25} {i j : Int} (h : isC x = true) (hi : inB (-1000) 1000 i = true) (hj : inB (-1000) 1000 j = true) (hs : isC (shv x i j) = true) : shR x i j = ((shv x i j).f0, (shv x i j).f1, (shv x i j).f2, (shv x i j).f3, true) := if_pos ⟨h, hi, hj, hs⟩
theorem inB_neg {i : Int} (h : inB (-1000) 1000 i = true) : wrap64 (-i) = -i ∧ inB (-1000) 1000 (-i) = true := by
  have := inB_iff.1 h
  exact ⟨wrap_id (by omega) (by omega), inB_of (by omega)⟩
def rfl_ (x y : S25) : S25 := ⟨x.f0 - twi x y * y.f0, x.f1 - twi x y * y.f1, x.f2 - twi x y * y.f2, x.f3 - twi x y * y.f3⟩
def reR (x y : S25) : Int × Int × Int × Int × Bool := if (isC x = true ∧ isC y = true) ∧ inC (rfl_ x y) = true then ((rfl_ x y).f0, (rfl_ x y).f1, (rfl_ x y).f2, (rfl_ x y).f3, true) else (0, 0, 0, 0, false)
theorem twi_rfl0 (x y : S25) (t : Int) : twi ⟨x.f0 - t * y.f0, x.f1 - t * y.f1, x.f2 - t * y.f2, x.f3 - t * y.f3⟩ y = twi x y - t * (2 * qf y) := by unfold twi qf; grind
theorem twi_rfl {x y : S25} (hy : qf y = 1) : twi (rfl_ x y) y = - twi x y := by
  have e : twi (rfl_ x y) y = twi x y - twi x y * (2 * qf y) := twi_rfl0 x y (twi x y)
  rw [hy] at e
  omega
theorem rfl_back {x y : S25} (hy : qf y = 1) : rfl_ (rfl_ x y) y = x := by
  have h := twi_rfl (x := x) hy
  have e : rfl_ (rfl_ x y) y = ⟨(rfl_ x y).f0 - twi (rfl_ x y) y * y.f0, (rfl_ x y).f1 - twi (rfl_ x y) y * y.f1, (rfl_ x y).f2 - twi (rfl_ x y) y * y.f2, (rfl_ x y).f3 - twi (rfl_ x y) y * y.f3⟩ := rfl
  rw [e, h]
  cases x
  simp only [rfl_, S25.mk.injEq]
  grind
theorem rfl_q {x y : S25} (hx : isC x = true) (hy : isC y = true) : isC (rfl_ x y) = inC (rfl_ x y) := isC_mix (reflect_eq (isC_q hx) (isC_q hy) rfl)
theorem reI (x y : S25) : impl_ReflectCircle.f x.f0 x.f1 x.f2 x.f3 y.f0 y.f1 y.f2 y.f3 = some (reR x y) := by
  unfold impl_ReflectCircle.f reR
  rw [arec]
  simp only [Option.bind_some]
  by_cases hx : isC x = true
  · by_cases hy : isC y = true
    · have c1 := ((isC_iff x).1 hx).1
      have c2 := ((isC_iff y).1 hy).1
      obtain ⟨t0, t1, ht⟩ := twi_b c1 c2
      rw [if_pos (by rw [hx, hy]; rfl), ht]
      simp only [Option.bind_some]
      unfold rfl_
      generalize twi x y = t at *
      simp only [bnd] at c1 c2
      have m0 := sqb (a := t) (b := y.f0) (A := 6000000000000) (B := 1000000) (by omega) (by omega) (by omega) (by omega)
      have m1 := sqb (a := t) (b := y.f1) (A := 6000000000000) (B := 1000000) (by omega) (by omega) (by omega) (by omega)
      have m2 := sqb (a := t) (b := y.f2) (A := 6000000000000) (B := 1000000) (by omega) (by omega) (by omega) (by omega)
      have m3 := sqb (a := t) (b := y.f3) (A := 6000000000000) (B := 1000000) (by omega) (by omega) (by omega) (by omega)
      rw [wrap_id (x := t * y.f0) (by omega) (by omega), wrap_id (x := t * y.f1) (by omega) (by omega), wrap_id (x := t * y.f2) (by omega) (by omega), wrap_id (x := t * y.f3) (by omega) (by omega), wrap_id (x := x.f0 - t * y.f0) (by omega) (by omega), wrap_id (x := x.f1 - t * y.f1) (by omega) (by omega), wrap_id (x := x.f2 - t * y.f2) (by omega) (by omega), wrap_id (x := x.f3 - t * y.f3) (by omega) (by omega), drawn_f]
      by_cases hq : inC ⟨x.f0 - t * y.f0, x.f1 - t * y.f1, x.f2 - t * y.f2, x.f3 - t * y.f3⟩ = true
      · rw [if_pos hq, if_pos ⟨⟨hx, hy⟩, hq⟩]
        rfl
      · rw [if_neg hq, if_neg (fun h => hq h.2)]
        rfl
    · rw [if_neg (by rw [Bool.and_eq_true]; exact fun h => hy h.2), if_neg (fun h => hy h.1.2)]
  · rw [if_neg (by rw [Bool.and_eq_true]; exact fun h => hx h.1), if_neg (fun h => hx h.1.1)]
theorem reR_true {x y : S25} (h : (reR x y).2.2.2.2 = true) : ((isC x = true ∧ isC y = true) ∧ inC (rfl_ x y) = true) ∧ reR x y = ((rfl_ x y).f0, (rfl_ x y).f1, (rfl_ x y).f2, (rfl_ x y).f3, true) := by
  unfold reR at h ⊢
  split at h
  · rename_i hc
    exact ⟨hc, if_pos hc⟩
  · exact absurd h (by decide)
theorem reflect_both (a b c d e f g h : Int) : ∃ p, Ev (fun k => spec_ReflectCircle.f k a b c d e f g h) p ∧ impl_ReflectCircle.f a b c d e f g h = some p := by
  have j0 : ∀ _x : Nat, Ev (fun k => spec_ReflectCircle.j0 k true a b c d e f g h) (0, 0, 0, 0, false) := fun x => Ev.from 0 (fun k hk => by
    obtain ⟨k, rfl⟩ : ∃ m, k = m + 1 := ⟨k - 1, by omega⟩
    simp [spec_ReflectCircle.j0])
  unfold spec_ReflectCircle.f impl_ReflectCircle.f impl_areCircles.f
  simp only [List.all_cons, List.all_nil, Bool.and_true, Option.bind_some]
  have e1 := ciGood_ev a b c d
  have e2 := ciGood_ev e f g h
  cases h1 : isC ⟨a, b, c, d⟩ with
  | false =>
    rw [h1] at e1
    exact ⟨_, Ev.bind e1 (by simp only [Bool.false_eq_true, if_false]; exact j0 0), rfl⟩
  | true =>
    rw [h1] at e1
    cases h2 : isC ⟨e, f, g, h⟩ with
    | false =>
      rw [h2] at e2
      exact ⟨_, Ev.bind e1 (Ev.bind e2 (by simp only [Bool.not_false]; exact j0 0)), rfl⟩
    | true =>
      rw [h2] at e2
      obtain ⟨c1, q1⟩ := (isC_iff _).1 h1
      obtain ⟨c2, q2⟩ := (isC_iff _).1 h2
      obtain ⟨t0, t1, ht⟩ := twi_b c1 c2
      have hd : twi ⟨a, b, c, d⟩ ⟨e, f, g, h⟩ = 2 * c * g + 2 * d * h - a * f - b * e := rfl
      generalize twi ⟨a, b, c, d⟩ ⟨e, f, g, h⟩ = t at *
      simp only [bnd] at c1 c2 q1 q2 ht
      have m0 := sqb (a := t) (b := e) (A := 6000000000000) (B := 1000000) (by omega) (by omega) (by omega) (by omega)
      have m1 := sqb (a := t) (b := f) (A := 6000000000000) (B := 1000000) (by omega) (by omega) (by omega) (by omega)
      have m2 := sqb (a := t) (b := g) (A := 6000000000000) (B := 1000000) (by omega) (by omega) (by omega) (by omega)
      have m3 := sqb (a := t) (b := h) (A := 6000000000000) (B := 1000000) (by omega) (by omega) (by omega) (by omega)
      have hre := reflect_eq q1 q2 hd
      have eI := ciIf_ev (a - t * e) (b - t * f) (c - t * g) (d - t * h)
      rw [isC_of hre] at eI
      rw [ht]
      simp only [Option.bind_some, Bool.and_self, if_true]
      rw [wrap_id (x := t * e) (by omega) (by omega), wrap_id (x := t * f) (by omega) (by omega), wrap_id (x := t * g) (by omega) (by omega), wrap_id (x := t * h) (by omega) (by omega), wrap_id (x := a - t * e) (by omega) (by omega), wrap_id (x := b - t * f) (by omega) (by omega), wrap_id (x := c - t * g) (by omega) (by omega), wrap_id (x := d - t * h) (by omega) (by omega), drawn_f]
      refine ⟨_, Ev.bind e1 (Ev.bind e2 ?_), rfl⟩
      have key : Ev (fun k => ((spec_ciFits.f t e).bind fun t366 => (if t366 = true then ((spec_ciFits.f t f).bind fun t367 => (if t367 = true then ((spec_ciFits.f t g).bind fun t368 => (if t368 = true then ((spec_ciFits.f t h).bind fun t369 => (if t369 = true then ((spec_ciIf.f k (a - t * e) (b - t * f) (c - t * g) (d - t * h)).bind fun bt370 => (some (bt370.1, bt370.2.1, bt370.2.2.1, bt370.2.2.2.1, bt370.2.2.2.2))) else (some (0, 0, 0, 0, false)))) else (some (0, 0, 0, 0, false)))) else (some (0, 0, 0, 0, false)))) else (some (0, 0, 0, 0, false)))))
          (if inC ⟨a - t * e, b - t * f, c - t * g, d - t * h⟩ = true then (a - t * e, b - t * f, c - t * g, d - t * h, true) else (0, 0, 0, 0, false)) := by
        rw [ciFits_f (t := t) (d := e) (by omega) (by omega) (by omega) (by omega), ciFits_f (t := t) (d := f) (by omega) (by omega) (by omega) (by omega), ciFits_f (t := t) (d := g) (by omega) (by omega) (by omega) (by omega), ciFits_f (t := t) (d := h) (by omega) (by omega) (by omega) (by omega)]
        simp only [Option.bind_some, decide_eq_true_iff]
        have hin := inC_iff ⟨a - t * e, b - t * f, c - t * g, d - t * h⟩
        simp only [bnd] at hin
        by_cases g0 : -10000000 ≤ t * e ∧ t * e ≤ 10000000
        · simp only [if_pos g0]
          by_cases g1 : -10000000 ≤ t * f ∧ t * f ≤ 10000000
          · simp only [if_pos g1]
            by_cases g2 : -10000000 ≤ t * g ∧ t * g ≤ 10000000
            · simp only [if_pos g2]
              by_cases g3 : -10000000 ≤ t * h ∧ t * h ≤ 10000000
              · simp only [if_pos g3]
                exact Ev.bind eI (Ev.now _)
              · simp only [if_neg g3]
                rw [if_neg (fun z => by have := hin.1 z; omega)]
                exact Ev.now _
            · simp only [if_neg g2]
              rw [if_neg (fun z => by have := hin.1 z; omega)]
              exact Ev.now _
          · simp only [if_neg g1]
            rw [if_neg (fun z => by have := hin.1 z; omega)]
            exact Ev.now _
        · simp only [if_neg g0]
          rw [if_neg (fun z => by have := hin.1 z; omega)]
          exact Ev.now _
      obtain ⟨K, hK⟩ := key
      refine Ev.from (K + 1) (fun k hk => ?_)
      obtain ⟨k, rfl⟩ : ∃ m, k = m + 1 := ⟨k - 1, by omega⟩
      have := hK k (by omega)
      simp only [spec_ReflectCircle.j0, Bool.not_true, Bool.false_eq_true, if_false, ciTwice_f, ht, Option.bind_some]
      rw [wrap_id (x := t * e) (by omega) (by omega), wrap_id (x := t * f) (by omega) (by omega), wrap_id (x := t * g) (by omega) (by omega), wrap_id (x := t * h) (by omega) (by omega), wrap_id (x := a - t * e) (by omega) (by omega), wrap_id (x := b - t * f) (by omega) (by omega), wrap_id (x := c - t * g) (by omega) (by omega), wrap_id (x := d - t * h) (by omega) (by omega)]
      exact this
theorem reS (x y : S25) : Ev (fun k => spec_ReflectCircle.f k x.f0 x.f1 x.f2 x.f3 y.f0 y.f1 y.f2 y.f3) (reR x y) := by
  obtain ⟨p, h1, h2⟩ := reflect_both x.f0 x.f1 x.f2 x.f3 y.f0 y.f1 y.f2 y.f3
  rw [reI] at h2
  rw [Option.some.inj h2]
  exact h1

end Go.Proofs.Ytkllcinoodfffaa.P
