import Derived.Test.YtjnpopipdnaaiaaP0
import Derived.Test.YtjnpopipdnaaiaaP1
import Derived.Test.YtjnpopipdnaaiaaP2
import Derived.Test.YtjnpopipdnaaiaaP3
import Derived.Test.YtjnpopipdnaaiaaP7
import Derived.Test.YtjnpopipdnaaiaaP13
import Derived.Test.YtjnpopipdnaaiaaP14
namespace Go.Proofs.Ytjnpopipdnaaiaa.P
open Go.RowKit Go.Proofs.YtjnpopipdnaaiaaW.PrintWords Go.Proofs.YtjnpopipdnaaiaaW.PrintLast Go.Proofs.YtjnpopipdnaaiaaW.PrintMore
theorem wrap_id {x : Int} (h0 : -9223372036854775808 ≤ x) (h1 : x ≤ 9223372036854775807) : wrap64 x = x := by unfold wrap64; omega
theorem rdi_at {l : List Int} {i : Nat} (h : i < l.length) : rd l (i : Int) = l[i] := by simp [rd, List.getD_eq_getElem?_getD, List.getElem?_eq_getElem h]
theorem l1In_f (x lo hi : Int) : spec_l1In.f x lo hi = some (inB lo hi x) := by
  unfold spec_l1In.f inB
  by_cases h : x ≥ lo
  · rw [if_pos h]; simp [show lo ≤ x from h]
  · rw [if_neg h]; simp [show ¬ lo ≤ x from h]
theorem inB_iff {lo hi x : Int} : inB lo hi x = true ↔ lo ≤ x ∧ x ≤ hi := by simp [inB]
theorem Ev.all {α : Type} {f : Option α} {r : α} (h : f = some r) : Ev (fun _ => f) r := ⟨0, fun _ _ => h⟩
theorem Ev.from {α : Type} {g : Nat → Option α} {r : α} (K : Nat) (h : ∀ k, K < k → g k = some r) : Ev g r := ⟨K + 1, fun k hk => h k (by omega)⟩
theorem l1All_l (lo hi : Int) (l : List Int) (hl : (l.length : Int) ≤ 9223372036854775806) (d : Nat) : ∀ (i k : Nat), i + d = l.length → d < k → spec_l1All.l0 k lo hi l (l.length : Int) (i : Int) = some ((l.drop i).all (inB lo hi)) := by
  induction d with
  | zero =>
    intro i k hi' hk
    obtain ⟨k, rfl⟩ : ∃ m, k = m + 1 := ⟨k - 1, by omega⟩
    simp only [spec_l1All.l0]
    rw [if_neg (by omega), List.drop_of_length_le (by omega)]
    rfl
  | succ d ih =>
    intro i k hi' hk
    obtain ⟨k, rfl⟩ : ∃ m, k = m + 1 := ⟨k - 1, by omega⟩
    have hil : i < l.length := by omega
    simp only [spec_l1All.l0]
    rw [if_pos (by omega), if_pos (by omega), if_pos (by omega), l1In_f, rdi_at hil, wrap_id (by omega) (by omega)]
    simp only [Option.bind_some]
    rw [List.drop_eq_getElem_cons hil, List.all_cons]
    cases inB lo hi l[i] with
    | false => simp
    | true =>
      simp only [if_true, Bool.true_and]
      exact ih (i + 1) k (by omega) (by omega)
theorem l1All_ev (lo hi : Int) (l : List Int) (hl : (l.length : Int) ≤ 9223372036854775806) : Ev (fun k => spec_l1All.f k l lo hi) (l.all (inB lo hi)) :=
  Ev.from l.length (fun k hk => by
    have := l1All_l lo hi l hl l.length 0 k (by omega) hk
    simpa [spec_l1All.f] using this)

def bnd (x : Int) : Prop := -1000000 ≤ x ∧ x ≤ 1000000
theorem sqb {a b A B : Int} (h0 : -A ≤ a) (h1 : a ≤ A) (h2 : -B ≤ b) (h3 : b ≤ B) : -(A * B) ≤ a * b ∧ a * b ≤ A * B := by
  have p1 := Int.mul_nonneg (show 0 ≤ A - a by omega) (show 0 ≤ B + b by omega)
  have p2 := Int.mul_nonneg (show 0 ≤ A + a by omega) (show 0 ≤ B - b by omega)
  have p3 := Int.mul_nonneg (show 0 ≤ A - a by omega) (show 0 ≤ B - b by omega)
  have p4 := Int.mul_nonneg (show 0 ≤ A + a by omega) (show 0 ≤ B + b by omega)
  constructor <;> grind
theorem isC_iff (x : S25) : isC x = true ↔ (bnd x.f0 ∧ bnd x.f1 ∧ bnd x.f2 ∧ bnd x.f3) ∧ x.f2 * x.f2 + x.f3 * x.f3 - x.f0 * x.f1 = 1 := by
  unfold isC bnd
  simp only [List.all_cons, List.all_nil, Bool.and_true, Bool.and_eq_true, inB_iff, beq_iff_eq]
  constructor
  · rintro ⟨⟨h0, h1, h2, h3⟩, h⟩
    have a := sqb (A := 1000000) (B := 1000000) (by omega) h0.2 (by omega) h1.2
    have b := sqb (A := 1000000) (B := 1000000) (by omega) h2.2 (by omega) h2.2
    have c := sqb (A := 1000000) (B := 1000000) (by omega) h3.2 (by omega) h3.2
    rw [wrap_id (x := x.f2 * x.f2) (by omega) (by omega), wrap_id (x := x.f3 * x.f3) (by omega) (by omega), wrap_id (x := x.f0 * x.f1) (by omega) (by omega), wrap_id (x := x.f2 * x.f2 + x.f3 * x.f3) (by omega) (by omega), wrap_id (by omega) (by omega)] at h
    exact ⟨⟨h0, h1, h2, h3⟩, h⟩
  · rintro ⟨⟨h0, h1, h2, h3⟩, h⟩
    have a := sqb (A := 1000000) (B := 1000000) (by omega) h0.2 (by omega) h1.2
    have b := sqb (A := 1000000) (B := 1000000) (by omega) h2.2 (by omega) h2.2
    have c := sqb (A := 1000000) (B := 1000000) (by omega) h3.2 (by omega) h3.2
    rw [wrap_id (x := x.f2 * x.f2) (by omega) (by omega), wrap_id (x := x.f3 * x.f3) (by omega) (by omega), wrap_id (x := x.f0 * x.f1) (by omega) (by omega), wrap_id (x := x.f2 * x.f2 + x.f3 * x.f3) (by omega) (by omega), wrap_id (x := x.f2 * x.f2 + x.f3 * x.f3 - x.f0 * x.f1) (by omega) (by omega)]
    exact ⟨⟨h0, h1, h2, h3⟩, h⟩
theorem ciGood_ev (a b c d : Int) : Ev (fun k => spec_ciGood.f k a b c d) (isC ⟨a, b, c, d⟩) := by
  have h := l1All_ev (-1000000) 1000000 [a, b, c, d] (by simp)
  unfold spec_ciGood.f
  refine Ev.bind h ?_
  unfold isC
  cases ([a, b, c, d] : List Int).all (inB (-1000000) 1000000) with
  | true => simp only [if_true]; exact Ev.now _
  | false => simp only [Bool.false_eq_true, if_false]; exact Ev.now _
theorem eqCircle_f (a b c d : Int) : laws_eqCircle.f a b c d a b c d = some true := by
  unfold laws_eqCircle.f
  simp
/-- bounds alone: what 'drawn' asks. -/
def inC (x : S25) : Bool := ([x.f0, x.f1, x.f2, x.f3] : List Int).all (inB (-1000000) 1000000)
theorem inC_iff (x : S25) : inC x = true ↔ bnd x.f0 ∧ bnd x.f1 ∧ bnd x.f2 ∧ bnd x.f3 := by
  unfold inC bnd
  simp only [List.all_cons, List.all_nil, Bool.and_true, Bool.and_eq_true, inB_iff]
theorem drawn_f (a b c d : Int) : impl_drawn.f a b c d = some (if inC ⟨a, b, c, d⟩ = true then (a, b, c, d, true) else (0, 0, 0, 0, false)) := by
  unfold impl_drawn.f impl_Circle_numbers.f impl_allWithin.f inC
  simp only [Option.bind_some]
  cases ([a, b, c, d] : List Int).all (inB (-1000000) 1000000) with
  | true => rfl
  | false => rfl
theorem ciIf_ev (a b c d : Int) : Ev (fun k => spec_ciIf.f k a b c d) (if isC ⟨a, b, c, d⟩ = true then (a, b, c, d, true) else (0, 0, 0, 0, false)) := by
  unfold spec_ciIf.f
  refine Ev.bind (ciGood_ev a b c d) ?_
  cases isC ⟨a, b, c, d⟩ with
  | true => simp only [if_true]; exact Ev.now _
  | false => simp only [Bool.false_eq_true, if_false]; exact Ev.now _
theorem isC_of {a b c d : Int} (h : c * c + d * d - a * b = 1) : isC ⟨a, b, c, d⟩ = inC ⟨a, b, c, d⟩ := by
  rw [Bool.eq_iff_iff, isC_iff, inC_iff]
  exact ⟨fun q => q.1, fun q => ⟨q, h⟩⟩
theorem l1Abs_f (x : Int) (h0 : -9223372036854775807 ≤ x) (h1 : x ≤ 9223372036854775807) : spec_l1Abs.f x = some (x.natAbs : Int) := by
  unfold spec_l1Abs.f spec_l1Most.f
  rw [wrap_id (by omega) (by omega)]
  by_cases h : x > -x
  · rw [if_pos h]
    exact congrArg some (by omega)
  · rw [if_neg h]
    exact congrArg some (by omega)
theorem ciFits_f {t d : Int} (h0 : -9223372036854775807 ≤ t) (h1 : t ≤ 9223372036854775807) (h2 : -9223372036854775807 ≤ d) (h3 : d ≤ 9223372036854775807) : spec_ciFits.f t d = some (decide (-10000000 ≤ t * d ∧ t * d ≤ 10000000)) := by
  unfold spec_ciFits.f
  by_cases h : t = 0
  · subst h
    rw [if_pos rfl]
    simp
  · rw [if_neg h, l1Abs_f t h0 h1, l1Abs_f d h2 h3]
    simp only [Option.bind_some]
    rw [if_neg (by omega)]
    have hq := Int.ediv_le_self (a := 10000000) (t.natAbs : Int) (by decide)
    have hq0 := Int.ediv_nonneg (a := 10000000) (b := (t.natAbs : Int)) (by decide) (by omega)
    rw [wrap_id (by omega) (by omega)]
    refine congrArg some (decide_eq_decide.2 ?_)
    rw [Int.le_ediv_iff_mul_le (by omega)]
    have he : (d.natAbs : Int) * (t.natAbs : Int) = ((t * d).natAbs : Int) := by rw [Int.natAbs_mul, Int.natCast_mul, Int.mul_comm]
    rw [he]
    omega
/-- the twice product, in whole numbers -/
def twi (x y : S25) : Int := 2 * x.f2 * y.f2 + 2 * x.f3 * y.f3 - x.f0 * y.f1 - x.f1 * y.f0
theorem twi_b {x y : S25} (hx : bnd x.f0 ∧ bnd x.f1 ∧ bnd x.f2 ∧ bnd x.f3) (hy : bnd y.f0 ∧ bnd y.f1 ∧ bnd y.f2 ∧ bnd y.f3) : -6000000000000 ≤ twi x y ∧ twi x y ≤ 6000000000000 ∧ impl_twice.f x.f0 x.f1 x.f2 x.f3 y.f0 y.f1 y.f2 y.f3 = some (twi x y) := by
  unfold bnd at hx hy
  have a := sqb (a := 2 * x.f2) (b := y.f2) (A := 2000000) (B := 1000000) (by omega) (by omega) (by omega) (by omega)
  have b := sqb (a := 2 * x.f3) (b := y.f3) (A := 2000000) (B := 1000000) (by omega) (by omega) (by omega) (by omega)
  have c := sqb (a := x.f0) (b := y.f1) (A := 1000000) (B := 1000000) (by omega) (by omega) (by omega) (by omega)
  have d := sqb (a := x.f1) (b := y.f0) (A := 1000000) (B := 1000000) (by omega) (by omega) (by omega) (by omega)
  refine ⟨by unfold twi; omega, by unfold twi; omega, ?_⟩
  unfold impl_twice.f twi
  rw [wrap_id (x := 2 * x.f2) (by omega) (by omega), wrap_id (x := 2 * x.f3) (by omega) (by omega), wrap_id (x := 2 * x.f2 * y.f2) (by omega) (by omega), wrap_id (x := 2 * x.f3 * y.f3) (by omega) (by omega), wrap_id (x := x.f0 * y.f1) (by omega) (by omega), wrap_id (x := x.f1 * y.f0) (by omega) (by omega), wrap_id (x := 2 * x.f2 * y.f2 + 2 * x.f3 * y.f3) (by omega) (by omega), wrap_id (x := 2 * x.f2 * y.f2 + 2 * x.f3 * y.f3 - x.f0 * y.f1) (by omega) (by omega), wrap_id (x := 2 * x.f2 * y.f2 + 2 * x.f3 * y.f3 - x.f0 * y.f1 - x.f1 * y.f0) (by omega) (by omega)]
theorem reflect_eq {a b c d e f g h t : Int} (h1 : c * c + d * d - a * b = 1) (h2 : g * g + h * h - e * f = 1) (ht : t = 2 * c * g + 2 * d * h - a * f - b * e) :
    (c - t * g) * (c - t * g) + (d - t * h) * (d - t * h) - (a - t * e) * (b - t * f) = 1 := by
  subst ht
  grind
theorem ciTwice_f (a b c d e f g h : Int) : spec_ciTwice.f a b c d e f g h = impl_twice.f a b c d e f g h := rfl

end Go.Proofs.Ytjnpopipdnaaiaa.P
