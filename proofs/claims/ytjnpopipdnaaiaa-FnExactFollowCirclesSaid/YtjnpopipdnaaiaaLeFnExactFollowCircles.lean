import Derived.Test.YtjnpopipdnaaiaaP0
import Derived.Test.YtjnpopipdnaaiaaP1
import Derived.Test.YtjnpopipdnaaiaaP2
import Derived.Test.YtjnpopipdnaaiaaP3
import Derived.Test.YtjnpopipdnaaiaaP7
import Derived.Test.YtjnpopipdnaaiaaP9
import Derived.Test.YtjnpopipdnaaiaaP10
import Derived.Test.YtjnpopipdnaaiaaP11
import Derived.Test.YtjnpopipdnaaiaaP18
import Derived.Test.YtjnpopipdnaaiaaP19
import Derived.Test.YtjnpopipdnaaiaaP20
import Derived.Test.YtjnpopipdnaaiaaP21
import Derived.Test.YtjnpopipdnaaiaaP22
import Derived.Test.YtjnpopipdnaaiaaP25
import Derived.Test.YtjnpopipdnaaiaaP27
import Derived.Test.YtjnpopipdnaaiaaP32
import Derived.Test.YtjnpopipdnaaiaaP33
import Derived.Test.YtjnpopipdnaaiaaP34
import Derived.Test.YtjnpopipdnaaiaaP35
import Derived.Test.YtjnpopipdnaaiaaP38
import Derived.Test.YtjnpopipdnaaiaaP39
namespace Go.Proofs.Ytjnpopipdnaaiaa.P
open Go.RowKit Go.Proofs.YtjnpopipdnaaiaaW.PrintWords Go.Proofs.YtjnpopipdnaaiaaW.PrintLast Go.Proofs.YtjnpopipdnaaiaaW.PrintMore
theorem wrap_id {x : Int} (h0 : -9223372036854775808 ≤ x) (h1 : x ≤ 9223372036854775807) : wrap64 x = x := by unfold wrap64; omega
theorem rdi_at {l : List Int} {i : Nat} (h : i < l.length) : rd l (i : Int) = l[i] := by simp [rd, List.getD_eq_getElem?_getD, List.getElem?_eq_getElem h]
theorem l1In_f (x lo hi : Int) : spec_l1In.f x lo hi = some (inB lo hi x) := by
  unfold spec_l1In.f inB
  by_cases h : x ≥ lo
  · rw [if_pos h]; simp [show lo ≤ x from h]
  · rw [if_neg h]; simp [show ¬ lo ≤ x from h]
theorem inB_iff {lo hi x : Int} : inB lo hi x = true ↔ lo ≤ x ∧ x ≤ hi := by simp [inB]
theorem Ev.all {α : Type} {f : Option α} {r : α} (h : f = some r) : Ev (fun _ => f) r := ⟨0, fun _ _ => h⟩
theorem Ev.from {α : Type} {g : Nat → Option α} {r : α} (K : Nat) (h : ∀ k, K < k → g k = some r) : Ev g r := ⟨K + 1, fun k hk => h k (by omega)⟩
theorem toIntS_l (d : Nat) : ∀ (i k : Nat) (l x : List Int), i + d = l.length → x.length = l.length → x.take i = l.take i → d < k → (l.length : Int) ≤ 9223372036854775806 → laws_toIntS.l0 k l x (i : Int) = some l := by
  induction d with
  | zero =>
    intro i k l x hi hx ht hk hl
    obtain ⟨k, rfl⟩ : ∃ m, k = m + 1 := ⟨k - 1, by omega⟩
    simp only [laws_toIntS.l0]
    rw [if_neg (by omega)]
    rw [List.take_of_length_le (by omega), List.take_of_length_le (by omega)] at ht
    rw [ht]
  | succ d ih =>
    intro i k l x hi hx ht hk hl
    obtain ⟨k, rfl⟩ : ∃ m, k = m + 1 := ⟨k - 1, by omega⟩
    simp only [laws_toIntS.l0]
    rw [if_pos (by omega), if_pos (by omega), if_pos (by omega), wrap_id (by omega) (by omega)]
    have hr : rd l (i : Int) = l[i]'(by omega) := rdi_at (by omega)
    have := ih (i + 1) k l (x.set i (rd l (i : Int))) (by omega) (by simpa using hx) ?_ (by omega) hl
    · simp only [Int.toNat_natCast]
      rw [show ((i : Int) + 1) = ((i + 1 : Nat) : Int) by omega]
      exact this
    · rw [List.take_succ_eq_append_getElem (by simp; omega), List.take_succ_eq_append_getElem (by omega), List.take_set, List.set_eq_of_length_le (by simp; omega), ht]
      simp [hr]
theorem toIntS_f (l : List Int) (hl : l.length ≤ 35184372088832) (k : Nat) (hk : l.length < k) : laws_toIntS.f k l = some l := by
  unfold laws_toIntS.f
  rw [if_pos (by omega), if_pos (by omega)]
  exact toIntS_l l.length 0 k l _ (by omega) (by simp) (by simp) hk (by omega)
theorem toIntS_ev (l : List Int) (hl : l.length ≤ 35184372088832) : Ev (fun k => laws_toIntS.f k l) l := Ev.from l.length (fun k hk => toIntS_f l hl k hk)
theorem eqIntS_ev (l : List Int) (hl : (l.length : Int) ≤ 9223372036854775806) : Ev (fun k => laws_eqIntS.f k l l) true := Ev.from l.length (fun k hk => eqIntS_refl l hl k hk)

theorem l1All_l (lo hi : Int) (l : List Int) (hl : (l.length : Int) ≤ 9223372036854775806) (d : Nat) : ∀ (i k : Nat), i + d = l.length → d < k → spec_l1All.l0 k lo hi l (l.length : Int) (i : Int) = some ((l.drop i).all (inB lo hi)) := by
  induction d with
  | zero =>
    intro i k hi' hk
    obtain ⟨k, rfl⟩ : ∃ m, k = m + 1 := ⟨k - 1, by omega⟩
    simp only [spec_l1All.l0]
    rw [if_neg (by omega), List.drop_of_length_le (by omega)]
    rfl
  | succ d ih =>
    intro i k hi' hk
    obtain ⟨k, rfl⟩ : ∃ m, k = m + 1 := ⟨k - 1, by omega⟩
    have hil : i < l.length := by omega
    simp only [spec_l1All.l0]
    rw [if_pos (by omega), if_pos (by omega), if_pos (by omega), l1In_f, rdi_at hil, wrap_id (by omega) (by omega)]
    simp only [Option.bind_some]
    rw [List.drop_eq_getElem_cons hil, List.all_cons]
    cases inB lo hi l[i] with
    | false => simp
    | true =>
      simp only [if_true, Bool.true_and]
      exact ih (i + 1) k (by omega) (by omega)
theorem l1All_ev (lo hi : Int) (l : List Int) (hl : (l.length : Int) ≤ 9223372036854775806) : Ev (fun k => spec_l1All.f k l lo hi) (l.all (inB lo hi)) :=
  Ev.from l.length (fun k hk => by
    have := l1All_l lo hi l hl l.length 0 k (by omega) hk
    simpa [spec_l1All.f] using this)

def bnd (x : Int) : Prop := -1000000 ≤ x ∧ x ≤ 1000000
theorem sqb {a b A B : Int} (h0 : -A ≤ a) (h1 : a ≤ A) (h2 : -B ≤ b) (h3 : b ≤ B) : -(A * B) ≤ a * b ∧ a * b ≤ A * B := by
  have p1 := Int.mul_nonneg (show 0 ≤ A - a by omega) (show 0 ≤ B + b by omega)
  have p2 := Int.mul_nonneg (show 0 ≤ A + a by omega) (show 0 ≤ B - b by omega)
  have p3 := Int.mul_nonneg (show 0 ≤ A - a by omega) (show 0 ≤ B - b by omega)
  have p4 := Int.mul_nonneg (show 0 ≤ A + a by omega) (show 0 ≤ B + b by omega)
  constructor <;> grind
theorem isC_iff (x : S25) : isC x = true ↔ (bnd x.f0 ∧ bnd x.f1 ∧ bnd x.f2 ∧ bnd x.f3) ∧ x.f2 * x.f2 + x.f3 * x.f3 - x.f0 * x.f1 = 1 := by
  unfold isC bnd
  simp only [List.all_cons, List.all_nil, Bool.and_true, Bool.and_eq_true, inB_iff, beq_iff_eq]
  constructor
  · rintro ⟨⟨h0, h1, h2, h3⟩, h⟩
    have a := sqb (A := 1000000) (B := 1000000) (by omega) h0.2 (by omega) h1.2
    have b := sqb (A := 1000000) (B := 1000000) (by omega) h2.2 (by omega) h2.2
    have c := sqb (A := 1000000) (B := 1000000) (by omega) h3.2 (by omega) h3.2
    rw [wrap_id (x := x.f2 * x.f2) (by omega) (by omega), wrap_id (x := x.f3 * x.f3) (by omega) (by omega), wrap_id (x := x.f0 * x.f1) (by omega) (by omega), wrap_id (x := x.f2 * x.f2 + x.f3 * x.f3) (by omega) (by omega), wrap_id (by omega) (by omega)] at h
    exact ⟨⟨h0, h1, h2, h3⟩, h⟩
  · rintro ⟨⟨h0, h1, h2, h3⟩, h⟩
    have a := sqb (A := 1000000) (B := 1000000) (by omega) h0.2 (by omega) h1.2
    have b := sqb (A := 1000000) (B := 1000000) (by omega) h2.2 (by omega) h2.2
    have c := sqb (A := 1000000) (B := 1000000) (by omega) h3.2 (by omega) h3.2
    rw [wrap_id (x := x.f2 * x.f2) (by omega) (by omega), wrap_id (x := x.f3 * x.f3) (by omega) (by omega), wrap_id (x := x.f0 * x.f1) (by omega) (by omega), wrap_id (x := x.f2 * x.f2 + x.f3 * x.f3) (by omega) (by omega), wrap_id (x := x.f2 * x.f2 + x.f3 * x.f3 - x.f0 * x.f1) (by omega) (by omega)]
    exact ⟨⟨h0, h1, h2, h3⟩, h⟩
theorem ciGood_ev (a b c d : Int) : Ev (fun k => spec_ciGood.f k a b c d) (isC ⟨a, b, c, d⟩) := by
  have h := l1All_ev (-1000000) 1000000 [a, b, c, d] (by simp)
  unfold spec_ciGood.f
  refine Ev.bind h ?_
  unfold isC
  cases ([a, b, c, d] : List Int).all (inB (-1000000) 1000000) with
  | true => simp only [if_true]; exact Ev.now _
  | false => simp only [Bool.false_eq_true, if_false]; exact Ev.now _
theorem eqCircle_f (a b c d : Int) : laws_eqCircle.f a b c d a b c d = some true := by
  unfold laws_eqCircle.f
  simp
/-- bounds alone: what 'drawn' asks. -/
def inC (x : S25) : Bool := ([x.f0, x.f1, x.f2, x.f3] : List Int).all (inB (-1000000) 1000000)
theorem inC_iff (x : S25) : inC x = true ↔ bnd x.f0 ∧ bnd x.f1 ∧ bnd x.f2 ∧ bnd x.f3 := by
  unfold inC bnd
  simp only [List.all_cons, List.all_nil, Bool.and_true, Bool.and_eq_true, inB_iff]
/-- the twice product, in whole numbers -/
def twi (x y : S25) : Int := 2 * x.f2 * y.f2 + 2 * x.f3 * y.f3 - x.f0 * y.f1 - x.f1 * y.f0
theorem twi_b {x y : S25} (hx : bnd x.f0 ∧ bnd x.f1 ∧ bnd x.f2 ∧ bnd x.f3) (hy : bnd y.f0 ∧ bnd y.f1 ∧ bnd y.f2 ∧ bnd y.f3) : -6000000000000 ≤ twi x y ∧ twi x y ≤ 6000000000000 ∧ impl_twice.f x.f0 x.f1 x.f2 x.f3 y.f0 y.f1 y.f2 y.f3 = some (twi x y) := by
  unfold bnd at hx hy
  have a := sqb (a := 2 * x.f2) (b := y.f2) (A := 2000000) (B := 1000000) (by omega) (by omega) (by omega) (by omega)
  have b := sqb (a := 2 * x.f3) (b := y.f3) (A := 2000000) (B := 1000000) (by omega) (by omega) (by omega) (by omega)
  have c := sqb (a := x.f0) (b := y.f1) (A := 1000000) (B := 1000000) (by omega) (by omega) (by omega) (by omega)
  have d := sqb (a := x.f1) (b := y.f0) (A := 1000000) (B := 1000000) (by omega) (by omega) (by omega) (by omega)
  refine ⟨by unfold twi; omega, by unfold twi; omega, ?_⟩
  unfold impl_twice.f twi
  rw [wrap_id (x := 2 * x.f2) (by omega) (by omega), wrap_id (x := 2 * x.f3) (by omega) (by omega), wrap_id (x := 2 * x.f2 * y.f2) (by omega) (by omega), wrap_id (x := 2 * x.f3 * y.f3) (by omega) (by omega), wrap_id (x := x.f0 * y.f1) (by omega) (by omega), wrap_id (x := x.f1 * y.f0) (by omega) (by omega), wrap_id (x := 2 * x.f2 * y.f2 + 2 * x.f3 * y.f3) (by omega) (by omega), wrap_id (x := 2 * x.f2 * y.f2 + 2 * x.f3 * y.f3 - x.f0 * y.f1) (by omega) (by omega), wrap_id (x := 2 * x.f2 * y.f2 + 2 * x.f3 * y.f3 - x.f0 * y.f1 - x.f1 * y.f0) (by omega) (by omega)]
theorem ciTwice_f (a b c d e f g h : Int) : spec_ciTwice.f a b c d e f g h = impl_twice.f a b c d e f g h := rfl

def mkC : Int → Nat → List S25
  | _, 0 => []
  | m, n + 1 => ⟨m, m + 1, m + 2, m + 3⟩ :: mkC (m + 4) n
theorem mkC_length (n : Nat) : ∀ m, (mkC m n).length = n := by
  induction n with
  | zero => intro m; rfl
  | succ n ih => intro m; simp [mkC, ih]
theorem rdC_at {l : List S25} {i : Nat} (h : i < l.length) : rd_T25 l (i : Int) = l[i] := by simp [rd_T25, List.getD_eq_getElem?_getD, List.getElem?_eq_getElem h]
theorem rdC3_at {l : List S23} {i : Nat} (h : i < l.length) : rd_T23 l (i : Int) = l[i] := by simp [rd_T23, List.getD_eq_getElem?_getD, List.getElem?_eq_getElem h]
theorem eqCircleS_l (l : List S25) (hl : (l.length : Int) ≤ 9223372036854775806) (d : Nat) : ∀ (i : Nat) (k : Nat), i + d = l.length → d < k → laws_eqCircleS.l0 k l l (i : Int) = some true := by
  induction d with
  | zero =>
    intro i k hi hk
    obtain ⟨k, rfl⟩ : ∃ m, k = m + 1 := ⟨k - 1, by omega⟩
    simp only [laws_eqCircleS.l0]
    rw [if_neg (by omega)]
  | succ d ih =>
    intro i k hi hk
    obtain ⟨k, rfl⟩ : ∃ m, k = m + 1 := ⟨k - 1, by omega⟩
    simp only [laws_eqCircleS.l0]
    rw [if_pos (by omega), if_pos (by omega), if_pos (by omega), eqCircle_f, wrap_id (by omega) (by omega)]
    simp only [Option.bind_some, if_true]
    exact ih (i + 1) k (by omega) (by omega)
theorem eqCircleS_refl (l : List S25) (hl : (l.length : Int) ≤ 9223372036854775806) (k : Nat) (hk : l.length < k) : laws_eqCircleS.f k l l = some true := by
  unfold laws_eqCircleS.f
  rw [if_pos rfl]
  exact eqCircleS_l l hl l.length 0 k (by omega) hk
theorem eqCircleS_ev (l : List S25) (hl : (l.length : Int) ≤ 9223372036854775806) : Ev (fun k => laws_eqCircleS.f k l l) true := Ev.from l.length (fun k hk => eqCircleS_refl l hl k hk)
theorem markCircleS_l (d : Nat) : ∀ (i : Nat) (k : Nat) (x0 : List S25) (x1 : Int), i + d = x0.length → d < k → (x0.length : Int) ≤ 1152921504606846976 → 0 ≤ x1 → x1 + 4 * d ≤ 9223372036854775800 →
    laws_markCircleS.l0 k x0 x1 (i : Int) = some (x1 + 4 * d, x0.take i ++ mkC x1 d) := by
  induction d with
  | zero =>
    intro i k x0 x1 hi hk _ _ _
    obtain ⟨k, rfl⟩ : ∃ m, k = m + 1 := ⟨k - 1, by omega⟩
    simp only [laws_markCircleS.l0]
    rw [if_neg (by omega), List.take_of_length_le (by omega)]
    simp [mkC]
  | succ d ih =>
    intro i k x0 x1 hi hk h1 h2 h3
    obtain ⟨k, rfl⟩ : ∃ m, k = m + 1 := ⟨k - 1, by omega⟩
    have hil : i < x0.length := by omega
    simp only [laws_markCircleS.l0]
    rw [if_pos (by omega), if_pos (by omega), wrap_id (x := x1 + 1) (by omega) (by omega), wrap_id (x := x1 + 1 + 1) (by omega) (by omega), wrap_id (x := x1 + 1 + 1 + 1) (by omega) (by omega), wrap_id (x := x1 + 1 + 1 + 1 + 1) (by omega) (by omega), wrap_id (x := (i : Int) + 1) (by omega) (by omega)]
    simp only [Option.bind_some, Int.toNat_natCast]
    have e2 : ∀ (l : List S25) (y : S25), i < l.length → rd_T25 (l.set i y) (i : Int) = y := fun l y h => by
      rw [rdC_at (by simpa using h)]
      simp
    rw [e2 _ _ hil]
    simp only [List.set_set]
    rw [e2 _ _ hil]
    simp only [List.set_set]
    rw [e2 _ _ hil]
    simp only [List.set_set]
    have := ih (i + 1) k (x0.set i ⟨x1, x1 + 1, x1 + 1 + 1, x1 + 1 + 1 + 1⟩) (x1 + 1 + 1 + 1 + 1) (by simp; omega) (by omega) (by simp; omega) (by omega) (by omega)
    rw [show ((i : Int) + 1) = ((i + 1 : Nat) : Int) by omega, this]
    congr 1
    refine Prod.ext (by simp only; omega) ?_
    simp only [mkC]
    rw [List.take_succ_eq_append_getElem (by simp; omega), List.take_set, List.set_eq_of_length_le (by simp; omega)]
    simp only [List.getElem_set_self, List.append_assoc, List.singleton_append]
    rw [show x1 + 1 + 1 = x1 + 2 by omega, show x1 + 2 + 1 = x1 + 3 by omega, show x1 + 3 + 1 = x1 + 4 by omega]
theorem markCircleS_f (l : List S25) (m : Int) (k : Nat) (hk : l.length < k) (h1 : (l.length : Int) ≤ 1152921504606846976) (h2 : 0 ≤ m) (h3 : m + 4 * l.length ≤ 9223372036854775800) : laws_markCircleS.f k l m = some (m + 4 * l.length, mkC m l.length) := by
  unfold laws_markCircleS.f
  have := markCircleS_l l.length 0 k l m (by omega) hk h1 h2 h3
  simpa using this
theorem markCircleS_ev (l : List S25) (h1 : (l.length : Int) ≤ 1152921504606846976) : Ev (fun k => laws_markCircleS.f k l 1) (1 + 4 * (l.length : Int), mkC 1 l.length) := Ev.from l.length (fun k hk => markCircleS_f l 1 k hk h1 (by omega) (by omega))
theorem heldCircleS_l (d : Nat) : ∀ (i : Nat) (k : Nat) (x0 : List S25) (x1 : Int), i + d = x0.length → x0.drop i = mkC x1 d → d < k → (x0.length : Int) ≤ 1152921504606846976 → 0 ≤ x1 → x1 + 4 * d ≤ 9223372036854775800 →
    laws_heldCircleS.l0 k x0 x1 (i : Int) = some (x1 + 4 * d) := by
  induction d with
  | zero =>
    intro i k x0 x1 hi _ hk _ _ _
    obtain ⟨k, rfl⟩ : ∃ m, k = m + 1 := ⟨k - 1, by omega⟩
    simp only [laws_heldCircleS.l0]
    rw [if_neg (by omega)]
    simp
  | succ d ih =>
    intro i k x0 x1 hi hx hk h1 h2 h3
    obtain ⟨k, rfl⟩ : ∃ m, k = m + 1 := ⟨k - 1, by omega⟩
    have hil : i < x0.length := by omega
    rw [List.drop_eq_getElem_cons hil, mkC] at hx
    injection hx with hx0 hx1
    simp only [laws_heldCircleS.l0]
    rw [if_pos (by omega), if_pos (by omega), rdC_at hil, hx0, wrap_id (x := x1 + 1) (by omega) (by omega), wrap_id (x := x1 + 1 + 1) (by omega) (by omega), wrap_id (x := x1 + 1 + 1 + 1) (by omega) (by omega), wrap_id (x := x1 + 1 + 1 + 1 + 1) (by omega) (by omega), wrap_id (x := (i : Int) + 1) (by omega) (by omega)]
    rw [if_pos rfl, if_pos rfl, if_pos (by simp only; omega), if_pos (by simp only; omega)]
    have := ih (i + 1) k x0 (x1 + 1 + 1 + 1 + 1) (by omega) (by rw [hx1, show x1 + 4 = x1 + 1 + 1 + 1 + 1 by omega]) (by omega) h1 (by omega) (by omega)
    rw [show ((i : Int) + 1) = ((i + 1 : Nat) : Int) by omega, this]
    congr 1
    omega
theorem heldCircleS_ev (n : Nat) (h1 : (n : Int) ≤ 1152921504606846976) : Ev (fun k => laws_heldCircleS.f k (mkC 1 n) 1) (1 + 4 * (n : Int)) := Ev.from n (fun k hk => by
  unfold laws_heldCircleS.f
  have := heldCircleS_l n 0 k (mkC 1 n) 1 (by simp [mkC_length]) (by simp) hk (by simp [mkC_length]; omega) (by omega) (by omega)
  simpa using this)
def toC (x : S23) : S25 := ⟨x.f0, x.f1, x.f2, x.f3⟩
theorem toCircleS_l (d : Nat) : ∀ (i k : Nat) (l : List S23) (x : List S25), i + d = l.length → x.length = l.length → x.take i = (l.map toC).take i → d < k → (l.length : Int) ≤ 9223372036854775806 → laws_toCircleS.l0 k l x (i : Int) = some (l.map toC) := by
  induction d with
  | zero =>
    intro i k l x hi hx ht hk hl
    obtain ⟨k, rfl⟩ : ∃ m, k = m + 1 := ⟨k - 1, by omega⟩
    simp only [laws_toCircleS.l0]
    rw [if_neg (by omega)]
    rw [List.take_of_length_le (by omega), List.take_of_length_le (by simp; omega)] at ht
    rw [ht]
  | succ d ih =>
    intro i k l x hi hx ht hk hl
    obtain ⟨k, rfl⟩ : ∃ m, k = m + 1 := ⟨k - 1, by omega⟩
    have hil : i < l.length := by omega
    simp only [laws_toCircleS.l0, laws_toCircle.f]
    rw [if_pos (by omega), if_pos (by omega), rdC3_at hil]
    simp only [Option.bind_some]
    rw [if_pos (by omega), wrap_id (by omega) (by omega)]
    simp only [Int.toNat_natCast]
    rw [show ((i : Int) + 1) = ((i + 1 : Nat) : Int) by omega]
    refine ih (i + 1) k l _ (by omega) (by simpa using hx) ?_ (by omega) hl
    rw [List.take_succ_eq_append_getElem (by simp; omega), List.take_succ_eq_append_getElem (by simp; omega), List.take_set, List.set_eq_of_length_le (by simp; omega), ht]
    simp [toC]
theorem toCircleS_ev (l : List S23) (hl : l.length ≤ 8796093022208) : Ev (fun k => laws_toCircleS.f k l) (l.map toC) := Ev.from l.length (fun k hk => by
  unfold laws_toCircleS.f
  rw [if_pos (by omega), if_pos (by omega)]
  exact toCircleS_l l.length 0 k l _ (by omega) (by simp) (by simp) hk (by omega))
theorem szCircleS_f (l : List S23) (hl : l.length ≤ 8796093022208) : laws_szCircleS.f l 1048576 = some (if l.length ≤ 1048576 then 1048576 - (l.length : Int) else -1) := by
  unfold laws_szCircleS.f
  rw [wrap_id (by omega) (by omega)]
  by_cases h : l.length ≤ 1048576
  · rw [if_neg (by omega), if_pos h]
  · rw [if_pos (by omega), if_neg h]

def bndC (x : S25) : Prop := bnd x.f0 ∧ bnd x.f1 ∧ bnd x.f2 ∧ bnd x.f3
theorem twi_comm (x y : S25) : twi x y = twi y x := by unfold twi; grind
theorem twice_f {x y : S25} (hx : bndC x) (hy : bndC y) : impl_twice.f x.f0 x.f1 x.f2 x.f3 y.f0 y.f1 y.f2 y.f3 = some (twi x y) := (twi_b hx hy).2.2
theorem isC_bnd {x : S25} (h : isC x = true) : bndC x := ((isC_iff x).1 h).1
/-- the pairs of one circle with those behind it -/
def tl (c : S25) : List S25 → Nat → Nat → List (List Int)
  | [], _, _ => []
  | d :: ds, i, j => (if twi c d = -2 then [[(i : Int), (j : Int)]] else []) ++ tl c ds i (j + 1)
def pairsOf : List S25 → Nat → List (List Int)
  | [], _ => []
  | c :: cs, i => tl c cs i (i + 1) ++ pairsOf cs (i + 1)
theorem touching_A (l : List S25) (n : Nat) (hn : l.length = n) (hn1 : n ≤ 100000) (hb : ∀ x ∈ l, bndC x) (i : Nat) (hi : i < n) (F : Nat)
    (hB : ∀ (k : Nat) (x3 : List (List Int)), F < k → x3.length + (n - (i + 1)) * n ≤ 1000000000000 → impl_touching.l0 k l x3 l (n : Int) ((i + 1 : Nat) : Int) = some (x3 ++ pairsOf (l.drop (i + 1)) (i + 1))) (c : S25) (hc : bndC c) (d : Nat) :
    ∀ (j k : Nat) (x3 : List (List Int)), j + d = n → F + d + 1 < k → x3.length + d + (n - (i + 1)) * n ≤ 1000000000000 →
      impl_touching.l1 k l x3 (i : Int) (j : Int) l (n : Int) (i : Int) c.f0 c.f1 c.f2 c.f3 = some (x3 ++ tl c (l.drop j) i j ++ pairsOf (l.drop (i + 1)) (i + 1)) := by
  induction d with
  | zero =>
    intro j k x3 hj hk hx
    obtain ⟨k, rfl⟩ : ∃ m, k = m + 1 := ⟨k - 1, by omega⟩
    simp only [impl_touching.l1]
    rw [if_neg (by omega), wrap_id (by omega) (by omega), List.drop_of_length_le (by omega), show ((i : Int) + 1) = ((i + 1 : Nat) : Int) by omega, hB k x3 (by omega) (by omega)]
    simp [tl]
  | succ d ih =>
    intro j k x3 hj hk hx
    obtain ⟨k, rfl⟩ : ∃ m, k = m + 1 := ⟨k - 1, by omega⟩
    have hjl : j < l.length := by omega
    simp only [impl_touching.l1]
    rw [if_pos (by omega), if_pos (by omega), rdC_at hjl, twice_f hc (hb _ (List.getElem_mem hjl)), wrap_id (by omega) (by omega)]
    simp only [Option.bind_some]
    rw [List.drop_eq_getElem_cons hjl, tl, show ((j : Int) + 1) = ((j + 1 : Nat) : Int) by omega]
    by_cases ht : twi c l[j] = -2
    · rw [if_pos ht, if_pos (by omega), if_pos ht, ih (j + 1) k _ (by omega) (by omega) (by simp; omega)]
      simp
    · rw [if_neg ht, if_neg ht, ih (j + 1) k _ (by omega) (by omega) (by omega)]
      simp
theorem touching_B (l : List S25) (n : Nat) (hn : l.length = n) (hn1 : n ≤ 100000) (hb : ∀ x ∈ l, bndC x) (d : Nat) :
    ∀ (i k : Nat) (x3 : List (List Int)), i + d = n → d * (n + 3) < k → x3.length + (n - i) * n ≤ 1000000000000 → impl_touching.l0 k l x3 l (n : Int) (i : Int) = some (x3 ++ pairsOf (l.drop i) i) := by
  induction d with
  | zero =>
    intro i k x3 hi hk hx
    obtain ⟨k, rfl⟩ : ∃ m, k = m + 1 := ⟨k - 1, by omega⟩
    simp only [impl_touching.l0]
    rw [if_neg (by omega), List.drop_of_length_le (by omega)]
    simp [pairsOf]
  | succ d ih =>
    intro i k x3 hi hk hx
    obtain ⟨k, rfl⟩ : ∃ m, k = m + 1 := ⟨k - 1, by omega⟩
    have hil : i < l.length := by omega
    have e : (d + 1) * (n + 3) = d * (n + 3) + (n + 3) := by rw [Nat.add_mul]; omega
    have e2 : (n - i) * n = (n - (i + 1)) * n + n := by rw [show n - i = (n - (i + 1)) + 1 by omega, Nat.add_mul]; omega
    simp only [impl_touching.l0]
    rw [if_pos (by omega), if_pos (by omega), if_pos (by omega), rdC_at hil, wrap_id (by omega) (by omega), show ((i : Int) + 1) = ((i + 1 : Nat) : Int) by omega]
    rw [touching_A l n hn hn1 hb i (by omega) (d * (n + 3)) (fun k x3 hk hx => ih (i + 1) k x3 (by omega) hk hx) l[i] (hb _ (List.getElem_mem hil)) (n - (i + 1)) (i + 1) k x3 (by omega) (by omega) (by omega)]
    rw [List.drop_eq_getElem_cons hil, pairsOf, List.append_assoc]
theorem touching_ev (l : List S25) (hn1 : l.length ≤ 100000) (hb : ∀ x ∈ l, bndC x) : Ev (fun k => impl_touching.f k l) (pairsOf l 0) := Ev.from (l.length * (l.length + 3)) (fun k hk => by
  unfold impl_touching.f
  have hm : l.length * l.length ≤ 100000 * 100000 := Nat.mul_le_mul hn1 hn1
  have := touching_B l l.length rfl hn1 hb l.length 0 k [] (by omega) hk (by simp; omega)
  simpa using this)
theorem ciFour_l (l : List S25) (hl : (l.length : Int) ≤ 9223372036854775806) (d : Nat) : ∀ (i : Nat), i + d = l.length → Ev (fun k => spec_ciFour.l0 k l (l.length : Int) (i : Int)) ((l.drop i).all isC) := by
  induction d with
  | zero =>
    intro i hi
    refine Ev.from 0 (fun k hk => ?_)
    obtain ⟨k, rfl⟩ : ∃ m, k = m + 1 := ⟨k - 1, by omega⟩
    simp only [spec_ciFour.l0]
    rw [if_neg (by omega), List.drop_of_length_le (by omega)]
    rfl
  | succ d ih =>
    intro i hi
    have hil : i < l.length := by omega
    have hg := ciGood_ev l[i].f0 l[i].f1 l[i].f2 l[i].f3
    obtain ⟨K, hK⟩ : Ev (fun k => (spec_ciGood.f k l[i].f0 l[i].f1 l[i].f2 l[i].f3).bind fun t => if t = true then spec_ciFour.l0 k l (l.length : Int) ((i + 1 : Nat) : Int) else some false) ((l.drop i).all isC) := by
      refine Ev.bind hg ?_
      rw [List.drop_eq_getElem_cons hil, List.all_cons]
      show Ev _ (isC l[i] && _)
      cases isC l[i] with
      | true => simp only [if_true, Bool.true_and]; exact ih (i + 1) (by omega)
      | false => simp only [Bool.false_eq_true, if_false, Bool.false_and]; exact Ev.now _
    refine Ev.from (K + 1) (fun k hk => ?_)
    obtain ⟨k, rfl⟩ : ∃ m, k = m + 1 := ⟨k - 1, by omega⟩
    simp only [spec_ciFour.l0]
    rw [if_pos (by omega), if_pos (by omega), if_pos (by omega), rdC_at hil, wrap_id (by omega) (by omega), show ((i : Int) + 1) = ((i + 1 : Nat) : Int) by omega]
    exact hK k (by omega)
/-- four circles -/
def fourB (l : List S25) : Bool := decide (l.length = 4) && l.all isC
theorem ciFour_ev (l : List S25) : Ev (fun k => spec_ciFour.f k l) (fourB l) := by
  unfold spec_ciFour.f fourB
  by_cases h : l.length = 4
  · simp only [if_pos (show (l.length : Int) = 4 by omega), decide_eq_true h, Bool.true_and]
    have := ciFour_l l (by omega) l.length 0 (by omega)
    simpa using this
  · simp only [if_neg (show ¬ (l.length : Int) = 4 by omega), decide_eq_false h, Bool.false_and]
    exact Ev.now _
theorem areFour_f (l : List S25) : impl_areFour.f l = some (fourB l) := by
  unfold impl_areFour.f fourB impl_areCircles.f
  by_cases h : l.length = 4
  · rw [if_pos (show (l.length : Int) = 4 by omega), decide_eq_true h]
    rfl
  · rw [if_neg (show ¬ (l.length : Int) = 4 by omega), decide_eq_false h]
    rfl
theorem fourB_iff (l : List S25) : fourB l = true ↔ ∃ a b c d, l = [a, b, c, d] ∧ isC a = true ∧ isC b = true ∧ isC c = true ∧ isC d = true := by
  unfold fourB
  constructor
  · intro h
    simp only [Bool.and_eq_true, decide_eq_true_eq] at h
    match l, h with
    | [a, b, c, d], h => simp at h; exact ⟨a, b, c, d, rfl, h⟩
  · rintro ⟨a, b, c, d, rfl, h0, h1, h2, h3⟩
    simp [h0, h1, h2, h3]
/-- all pairs of four touch -/
def pairs4 (a b c d : S25) : Bool := decide (twi b a = -2) && (decide (twi c a = -2) && (decide (twi c b = -2) && (decide (twi d a = -2) && (decide (twi d b = -2) && decide (twi d c = -2)))))
def cfgB (l : List S25) : Bool := fourB l && match l with
  | [a, b, c, d] => pairs4 a b c d
  | _ => false
theorem to4 (a b c d : S25) : decide ((pairsOf [a, b, c, d] 0).length = 6) = pairs4 a b c d := by
  have e : (pairsOf [a, b, c, d] 0).length = (if twi b a = -2 then 1 else 0) + (if twi c a = -2 then 1 else 0) + (if twi d a = -2 then 1 else 0) + (if twi c b = -2 then 1 else 0) + (if twi d b = -2 then 1 else 0) + (if twi d c = -2 then 1 else 0) := by
    simp only [pairsOf, tl, twi_comm a b, twi_comm a c, twi_comm a d, twi_comm b c, twi_comm b d, twi_comm c d, List.length_append, List.length_nil]
    have h : ∀ (p : Prop) [Decidable p] (x : List Int), (if p then [x] else []).length = if p then 1 else 0 := by
      intro p _ x
      split <;> rfl
    simp only [h]
    omega
  rw [e]
  unfold pairs4
  by_cases h0 : twi b a = -2 <;> by_cases h1 : twi c a = -2 <;> by_cases h2 : twi c b = -2 <;> by_cases h3 : twi d a = -2 <;> by_cases h4 : twi d b = -2 <;> by_cases h5 : twi d c = -2 <;> simp [h0, h1, h2, h3, h4, h5]
theorem isConfig_ev (l : List S25) : Ev (fun k => impl_isConfig.f k l) (cfgB l) := by
  unfold impl_isConfig.f cfgB
  rw [areFour_f]
  simp only [Option.bind_some]
  cases h : fourB l with
  | false =>
    simp only [Bool.false_eq_true, if_false, Bool.false_and]
    exact Ev.now _
  | true =>
    simp only [if_true, Bool.true_and]
    obtain ⟨a, b, c, d, rfl, ha, hb, hc, hd⟩ := (fourB_iff l).1 h
    refine Ev.bind (touching_ev _ (by simp) ?_) ?_
    · intro x hx
      simp at hx
      rcases hx with rfl | rfl | rfl | rfl
      · exact isC_bnd ha
      · exact isC_bnd hb
      · exact isC_bnd hc
      · exact isC_bnd hd
    · refine Ev.all (congrArg some ?_)
      show _ = pairs4 a b c d
      rw [← to4, ← Bool.beq_eq_decide_eq]
      rw [Bool.eq_iff_iff, beq_iff_eq, beq_iff_eq]
      omega
/-- every circle from the i-th on touches all ahead of it -/
def cfr (l : List S25) : Nat → Nat → Bool
  | _, 0 => true
  | i, d + 1 => ((l.take i).all fun y => decide (twi (l.getD i z25) y = -2)) && cfr l (i + 1) d
theorem cc_A (x0 x10 : List S25) (x11 x12 : Int) (c : S25) (hc : bndC c) (ys : List S25) (hy : ∀ y ∈ ys, bndC y) (hl : ys.length ≤ 100000) (d : Nat) : ∀ (i : Nat), i + d = ys.length → ∀ R : Bool,
    (if ((ys.drop i).all fun y => decide (twi c y = -2)) = true then Ev (fun k => spec_ciConfig.l0 k x0 x10 x11 (wrap64 (x12 + 1))) R else R = false) →
    Ev (fun k => spec_ciConfig.l1 k x0 x10 x11 x12 ys (ys.length : Int) (i : Int) c.f0 c.f1 c.f2 c.f3) R := by
  induction d with
  | zero =>
    intro i hi R hR
    rw [List.drop_of_length_le (by omega)] at hR
    simp only [List.all_nil, if_true] at hR
    refine Ev.step (f := fun k => spec_ciConfig.l0 k x0 x10 x11 (wrap64 (x12 + 1))) (fun k => ?_) hR
    simp only [spec_ciConfig.l1]
    rw [if_neg (by omega)]
  | succ d ih =>
    intro i hi R hR
    have hil : i < ys.length := by omega
    rw [List.drop_eq_getElem_cons hil, List.all_cons] at hR
    by_cases ht : twi c ys[i] = -2
    · rw [decide_eq_true ht, Bool.true_and] at hR
      refine Ev.step (f := fun k => spec_ciConfig.l1 k x0 x10 x11 x12 ys (ys.length : Int) ((i + 1 : Nat) : Int) c.f0 c.f1 c.f2 c.f3) (fun k => ?_) (ih (i + 1) (by omega) R hR)
      simp only [spec_ciConfig.l1]
      rw [if_pos (by omega), if_pos (by omega), if_pos (by omega), rdC_at hil, ciTwice_f, twice_f hc (hy _ (List.getElem_mem hil)), wrap_id (by omega) (by omega)]
      simp only [Option.bind_some]
      rw [if_pos ht, show ((i : Int) + 1) = ((i + 1 : Nat) : Int) by omega]
    · rw [decide_eq_false ht, Bool.false_and, if_neg (by decide)] at hR
      subst hR
      refine Ev.step (f := fun _ => some false) (fun k => ?_) (Ev.now _)
      simp only [spec_ciConfig.l1]
      rw [if_pos (by omega), if_pos (by omega), if_pos (by omega), rdC_at hil, ciTwice_f, twice_f hc (hy _ (List.getElem_mem hil))]
      simp only [Option.bind_some]
      rw [if_neg ht]
theorem cc_B (l : List S25) (hb : ∀ y ∈ l, bndC y) (hl : l.length ≤ 100000) (d : Nat) : ∀ (i : Nat), i + d = l.length → Ev (fun k => spec_ciConfig.l0 k l l (l.length : Int) (i : Int)) (cfr l i d) := by
  induction d with
  | zero =>
    intro i hi
    refine Ev.step (f := fun _ => some true) (fun k => ?_) (Ev.now _)
    simp only [spec_ciConfig.l0]
    rw [if_neg (by omega)]
  | succ d ih =>
    intro i hi
    have hil : i < l.length := by omega
    have hr : l.getD i z25 = l[i] := by simp [List.getD_eq_getElem?_getD, List.getElem?_eq_getElem hil]
    have hlen : (l.take i).length = i := by simp; omega
    have h := cc_A l l (l.length : Int) (i : Int) l[i] (hb _ (List.getElem_mem hil)) (l.take i) (fun y hy => hb y (List.mem_of_mem_take hy)) (by omega) (l.take i).length 0 (by omega) (cfr l i (d + 1)) (by
      simp only [List.drop_zero, cfr, hr]
      split
      · rename_i hq
        rw [hq, Bool.true_and, wrap_id (by omega) (by omega), show ((i : Int) + 1) = ((i + 1 : Nat) : Int) by omega]
        exact ih (i + 1) (by omega)
      · rename_i hq
        rw [Bool.eq_false_iff.2 hq, Bool.false_and])
    refine Ev.step (f := fun k => spec_ciConfig.l1 k l l (l.length : Int) (i : Int) (l.take i) ((l.take i).length : Int) ((0 : Nat) : Int) l[i].f0 l[i].f1 l[i].f2 l[i].f3) (fun k => ?_) h
    simp only [spec_ciConfig.l0]
    rw [if_pos (by omega), if_pos (by omega), if_pos (by omega), if_pos (by omega), rdC_at hil]
    simp only [Option.bind_some, Int.toNat_natCast]
    rfl
theorem ciConfig_ev (l : List S25) : Ev (fun k => spec_ciConfig.f k l) (cfgB l) := by
  unfold spec_ciConfig.f cfgB
  refine Ev.bind (ciFour_ev l) ?_
  cases h : fourB l with
  | false =>
    simp only [Bool.false_eq_true, if_false, Bool.false_and]
    exact Ev.now _
  | true =>
    simp only [if_true, Bool.true_and]
    obtain ⟨a, b, c, d, rfl, ha, hb, hc, hd⟩ := (fourB_iff l).1 h
    have hB := cc_B [a, b, c, d] (by
      intro x hx
      simp at hx
      rcases hx with rfl | rfl | rfl | rfl
      · exact isC_bnd ha
      · exact isC_bnd hb
      · exact isC_bnd hc
      · exact isC_bnd hd) (by simp) 4 0 rfl
    have e : cfr [a, b, c, d] 0 4 = pairs4 a b c d := by
      simp [cfr, pairs4, Bool.and_assoc]
    rw [e] at hB
    exact hB

def tk (g : S25 → Int) (l : List S25) (j : Nat) : Int := ((l.take j).map g).sum
theorem tk_succ (g : S25 → Int) (l : List S25) {j : Nat} (h : j < l.length) : tk g l (j + 1) = tk g l j + g l[j] := by
  unfold tk
  rw [List.take_succ_eq_append_getElem h, List.map_append, List.sum_append]
  simp only [List.map_cons, List.map_nil, List.sum_cons, List.sum_nil, Int.add_zero]
theorem tk_b (g : S25 → Int) (l : List S25) (hb : ∀ x ∈ l, bnd (g x)) : ∀ j, j ≤ l.length → -(1000000 * (j : Int)) ≤ tk g l j ∧ tk g l j ≤ 1000000 * (j : Int) := by
  intro j
  induction j with
  | zero => intro _; simp [tk]
  | succ j ih =>
    intro h
    have h1 := ih (by omega)
    have h2 := hb l[j] (List.getElem_mem (show j < l.length by omega))
    unfold bnd at h2
    rw [tk_succ g l (by omega)]
    omega
/-- one number behind a swap -/
def cp (g : S25 → Int) (l : List S25) (i : Nat) : Int := 2 * (tk g l l.length - g (l.getD i z25)) - g (l.getD i z25)
def nc (l : List S25) (i : Nat) : S25 := ⟨cp S25.f0 l i, cp S25.f1 l i, cp S25.f2 l i, cp S25.f3 l i⟩
def swc (l : List S25) (i : Nat) : List S25 := l.set i (nc l i)
/-- the sum of the others so far -/
def os (g : S25 → Int) (l : List S25) (i j : Nat) : Int := tk g l j - (if i < j then g (l.getD i z25) else 0)
theorem gd {l : List S25} {i : Nat} (h : i < l.length) : l.getD i z25 = l[i] := by simp [List.getD_eq_getElem?_getD, List.getElem?_eq_getElem h]
theorem os_self (g : S25 → Int) (l : List S25) {i : Nat} (h : i < l.length) : os g l i (i + 1) = os g l i i := by
  unfold os
  rw [tk_succ g l h, if_pos (by omega), if_neg (by omega), gd h]
  omega
theorem os_other (g : S25 → Int) (l : List S25) {i j : Nat} (h : j < l.length) (hij : j ≠ i) : os g l i (j + 1) = os g l i j + g l[j] := by
  unfold os
  rw [tk_succ g l h]
  by_cases h1 : i < j
  · rw [if_pos h1, if_pos (by omega)]; omega
  · rw [if_neg h1, if_neg (by omega)]; omega
theorem os_b (g : S25 → Int) (l : List S25) (hl : l.length = 4) (hb : ∀ x ∈ l, bnd (g x)) {i : Nat} (hi : i < 4) (j : Nat) (hj : j ≤ 4) : -5000000 ≤ os g l i j ∧ os g l i j ≤ 5000000 := by
  have h1 := tk_b g l hb j (by omega)
  have h2 := hb (l.getD i z25) (by rw [gd (by omega)]; exact List.getElem_mem _)
  unfold bnd at h2
  unfold os
  split <;> omega
theorem ciSwap_l (l : List S25) (hl : l.length = 4) (hb : ∀ x ∈ l, bndC x) {i : Nat} (hi : i < 4) (d : Nat) : ∀ j, j + d = 4 →
    Ev (fun k => spec_ciSwap.l0 k l (i : Int) l l 4 (j : Int) (os S25.f0 l i j) (os S25.f1 l i j) (os S25.f2 l i j) (os S25.f3 l i j)) (swc l i) := by
  have b0 : ∀ x ∈ l, bnd (S25.f0 x) := fun x hx => (hb x hx).1
  have b1 : ∀ x ∈ l, bnd (S25.f1 x) := fun x hx => (hb x hx).2.1
  have b2 : ∀ x ∈ l, bnd (S25.f2 x) := fun x hx => (hb x hx).2.2.1
  have b3 : ∀ x ∈ l, bnd (S25.f3 x) := fun x hx => (hb x hx).2.2.2
  induction d with
  | zero =>
    intro j hj
    obtain rfl : j = 4 := by omega
    refine Ev.step (f := fun _ => some (swc l i)) (fun k => ?_) (Ev.now _)
    have q0 := os_b S25.f0 l hl b0 hi 4 (by omega)
    have q1 := os_b S25.f1 l hl b1 hi 4 (by omega)
    have q2 := os_b S25.f2 l hl b2 hi 4 (by omega)
    have q3 := os_b S25.f3 l hl b3 hi 4 (by omega)
    obtain ⟨c0, c1, c2, c3⟩ := hb (l.getD i z25) (by rw [gd (by omega)]; exact List.getElem_mem _)
    unfold bnd at c0 c1 c2 c3
    have hr : rd_T25 l (i : Int) = l.getD i z25 := by rw [rdC_at (by omega), gd (by omega)]
    simp only [spec_ciSwap.l0, hl]
    rw [if_neg (by omega), if_pos (by omega), if_pos (by omega), if_pos (by omega), hr]
    rw [wrap_id (x := 2 * os S25.f0 l i 4) (by omega) (by omega), wrap_id (x := 2 * os S25.f1 l i 4) (by omega) (by omega), wrap_id (x := 2 * os S25.f2 l i 4) (by omega) (by omega), wrap_id (x := 2 * os S25.f3 l i 4) (by omega) (by omega)]
    rw [wrap_id (x := 2 * os S25.f0 l i 4 - (l.getD i z25).f0) (by omega) (by omega), wrap_id (x := 2 * os S25.f1 l i 4 - (l.getD i z25).f1) (by omega) (by omega), wrap_id (x := 2 * os S25.f2 l i 4 - (l.getD i z25).f2) (by omega) (by omega), wrap_id (x := 2 * os S25.f3 l i 4 - (l.getD i z25).f3) (by omega) (by omega)]
    unfold swc nc cp os
    rw [hl, if_pos hi, if_pos hi, if_pos hi, if_pos hi]
    simp only [Int.toNat_natCast]
  | succ d ih =>
    intro j hj
    have hjl : j < l.length := by omega
    have h := ih (j + 1) (by omega)
    by_cases hij : j = i
    · subst hij
      rw [os_self _ _ hjl, os_self _ _ hjl, os_self _ _ hjl, os_self _ _ hjl] at h
      refine Ev.step (f := fun k => spec_ciSwap.l0 k l (j : Int) l l 4 ((j + 1 : Nat) : Int) (os S25.f0 l j j) (os S25.f1 l j j) (os S25.f2 l j j) (os S25.f3 l j j)) (fun k => ?_) h
      simp only [spec_ciSwap.l0]
      rw [if_pos (by omega), if_pos (by omega), if_pos (by omega), if_pos trivial, wrap_id (by omega) (by omega), show ((j : Int) + 1) = ((j + 1 : Nat) : Int) by omega]
    · have q0 := os_b S25.f0 l hl b0 hi j (by omega)
      have q1 := os_b S25.f1 l hl b1 hi j (by omega)
      have q2 := os_b S25.f2 l hl b2 hi j (by omega)
      have q3 := os_b S25.f3 l hl b3 hi j (by omega)
      obtain ⟨c0, c1, c2, c3⟩ := hb l[j] (List.getElem_mem _)
      unfold bnd at c0 c1 c2 c3
      rw [os_other _ _ hjl hij, os_other _ _ hjl hij, os_other _ _ hjl hij, os_other _ _ hjl hij] at h
      refine Ev.step (f := fun k => spec_ciSwap.l0 k l (i : Int) l l 4 ((j + 1 : Nat) : Int) (os S25.f0 l i j + l[j].f0) (os S25.f1 l i j + l[j].f1) (os S25.f2 l i j + l[j].f2) (os S25.f3 l i j + l[j].f3)) (fun k => ?_) h
      simp only [spec_ciSwap.l0]
      rw [if_pos (by omega), if_pos (by omega), if_pos (by omega), if_neg (by omega), rdC_at hjl, wrap_id (x := (j : Int) + 1) (by omega) (by omega), wrap_id (x := os S25.f0 l i j + l[j].f0) (by omega) (by omega), wrap_id (x := os S25.f1 l i j + l[j].f1) (by omega) (by omega), wrap_id (x := os S25.f2 l i j + l[j].f2) (by omega) (by omega), wrap_id (x := os S25.f3 l i j + l[j].f3) (by omega) (by omega), show ((j : Int) + 1) = ((j + 1 : Nat) : Int) by omega]
theorem ciSwap_ev (l : List S25) (hl : l.length = 4) (hb : ∀ x ∈ l, bndC x) {i : Nat} (hi : i < 4) : Ev (fun k => spec_ciSwap.f k l (i : Int)) (swc l i) := by
  have h := ciSwap_l l hl hb hi 4 0 (by omega)
  have z : ∀ g : S25 → Int, os g l i 0 = 0 := fun g => by unfold os tk; rw [if_neg (by omega)]; simp
  rw [z, z, z, z] at h
  unfold spec_ciSwap.f
  simp only [Option.bind_some, List.length_nil, List.nil_append, hl, if_pos (show 0 + 4 < 4398046511104 by decide)]
  exact h
theorem swapC_l (l : List S25) (hl : l.length = 4) (hb : ∀ x ∈ l, bndC x) {i : Nat} (hi : i < 4) (d : Nat) : ∀ j, j + d = 4 →
    Ev (fun k => impl_swapCircle.l0 k (i : Int) l l 4 (j : Int) (-3 * (l.getD i z25).f0 + 2 * tk S25.f0 l j) (-3 * (l.getD i z25).f1 + 2 * tk S25.f1 l j) (-3 * (l.getD i z25).f2 + 2 * tk S25.f2 l j) (-3 * (l.getD i z25).f3 + 2 * tk S25.f3 l j)) (swc l i, inC (nc l i)) := by
  have b0 : ∀ x ∈ l, bnd (S25.f0 x) := fun x hx => (hb x hx).1
  have b1 : ∀ x ∈ l, bnd (S25.f1 x) := fun x hx => (hb x hx).2.1
  have b2 : ∀ x ∈ l, bnd (S25.f2 x) := fun x hx => (hb x hx).2.2.1
  have b3 : ∀ x ∈ l, bnd (S25.f3 x) := fun x hx => (hb x hx).2.2.2
  obtain ⟨e0, e1, e2, e3⟩ := hb (l.getD i z25) (by rw [gd (by omega)]; exact List.getElem_mem _)
  unfold bnd at e0 e1 e2 e3
  induction d with
  | zero =>
    intro j hj
    obtain rfl : j = 4 := by omega
    refine Ev.step (f := fun _ => some (swc l i, inC (nc l i))) (fun k => ?_) (Ev.now _)
    simp only [impl_swapCircle.l0, hl]
    rw [if_neg (by omega), if_pos (by omega), if_pos (by omega)]
    have e : (⟨-3 * (l.getD i z25).f0 + 2 * tk S25.f0 l 4, -3 * (l.getD i z25).f1 + 2 * tk S25.f1 l 4, -3 * (l.getD i z25).f2 + 2 * tk S25.f2 l 4, -3 * (l.getD i z25).f3 + 2 * tk S25.f3 l 4⟩ : S25) = nc l i := by
      unfold nc cp
      rw [hl]
      congr 1 <;> omega
    have e' : ([-3 * (l.getD i z25).f0 + 2 * tk S25.f0 l 4, -3 * (l.getD i z25).f1 + 2 * tk S25.f1 l 4, -3 * (l.getD i z25).f2 + 2 * tk S25.f2 l 4, -3 * (l.getD i z25).f3 + 2 * tk S25.f3 l 4] : List Int).all (inB (-1000000) 1000000) = inC (nc l i) := by rw [← e]; rfl
    unfold impl_Circle_numbers.f impl_allWithin.f
    simp only [Option.bind_some, Int.toNat_natCast]
    rw [e', e]
    rfl
  | succ d ih =>
    intro j hj
    have hjl : j < l.length := by omega
    have h := ih (j + 1) (by omega)
    have q0 := tk_b S25.f0 l b0 j (by omega)
    have q1 := tk_b S25.f1 l b1 j (by omega)
    have q2 := tk_b S25.f2 l b2 j (by omega)
    have q3 := tk_b S25.f3 l b3 j (by omega)
    obtain ⟨c0, c1, c2, c3⟩ := hb l[j] (List.getElem_mem _)
    unfold bnd at c0 c1 c2 c3
    rw [tk_succ S25.f0 l hjl, tk_succ S25.f1 l hjl, tk_succ S25.f2 l hjl, tk_succ S25.f3 l hjl] at h
    refine Ev.step (f := fun k => impl_swapCircle.l0 k (i : Int) l l 4 ((j + 1 : Nat) : Int) (-3 * (l.getD i z25).f0 + 2 * (tk S25.f0 l j + l[j].f0)) (-3 * (l.getD i z25).f1 + 2 * (tk S25.f1 l j + l[j].f1)) (-3 * (l.getD i z25).f2 + 2 * (tk S25.f2 l j + l[j].f2)) (-3 * (l.getD i z25).f3 + 2 * (tk S25.f3 l j + l[j].f3))) (fun k => ?_) h
    simp only [impl_swapCircle.l0]
    rw [if_pos (by omega), if_pos (by omega), if_pos (by omega), rdC_at hjl, wrap_id (x := (j : Int) + 1) (by omega) (by omega), wrap_id (x := 2 * l[j].f0) (by omega) (by omega), wrap_id (x := 2 * l[j].f1) (by omega) (by omega), wrap_id (x := 2 * l[j].f2) (by omega) (by omega), wrap_id (x := 2 * l[j].f3) (by omega) (by omega)]
    rw [wrap_id (x := -3 * (l.getD i z25).f0 + 2 * tk S25.f0 l j + 2 * l[j].f0) (by omega) (by omega), wrap_id (x := -3 * (l.getD i z25).f1 + 2 * tk S25.f1 l j + 2 * l[j].f1) (by omega) (by omega), wrap_id (x := -3 * (l.getD i z25).f2 + 2 * tk S25.f2 l j + 2 * l[j].f2) (by omega) (by omega), wrap_id (x := -3 * (l.getD i z25).f3 + 2 * tk S25.f3 l j + 2 * l[j].f3) (by omega) (by omega)]
    rw [show -3 * (l.getD i z25).f0 + 2 * tk S25.f0 l j + 2 * l[j].f0 = -3 * (l.getD i z25).f0 + 2 * (tk S25.f0 l j + l[j].f0) by omega, show -3 * (l.getD i z25).f1 + 2 * tk S25.f1 l j + 2 * l[j].f1 = -3 * (l.getD i z25).f1 + 2 * (tk S25.f1 l j + l[j].f1) by omega, show -3 * (l.getD i z25).f2 + 2 * tk S25.f2 l j + 2 * l[j].f2 = -3 * (l.getD i z25).f2 + 2 * (tk S25.f2 l j + l[j].f2) by omega, show -3 * (l.getD i z25).f3 + 2 * tk S25.f3 l j + 2 * l[j].f3 = -3 * (l.getD i z25).f3 + 2 * (tk S25.f3 l j + l[j].f3) by omega, show ((j : Int) + 1) = ((j + 1 : Nat) : Int) by omega]
theorem swapC_ev (l : List S25) (hl : l.length = 4) (hb : ∀ x ∈ l, bndC x) {i : Nat} (hi : i < 4) : Ev (fun k => impl_swapCircle.f k l (i : Int)) (swc l i, inC (nc l i)) := by
  have h := swapC_l l hl hb hi 4 0 (by omega)
  have z : ∀ g : S25 → Int, tk g l 0 = 0 := fun g => by unfold tk; simp
  simp only [z, Int.mul_zero, Int.add_zero] at h
  obtain ⟨e0, e1, e2, e3⟩ := hb (l.getD i z25) (by rw [gd (by omega)]; exact List.getElem_mem _)
  unfold bnd at e0 e1 e2 e3
  have hr : rd_T25 l (i : Int) = l.getD i z25 := by rw [rdC_at (by omega), gd (by omega)]
  unfold impl_swapCircle.f impl_Circle.f
  simp only [hl, if_pos (show (4 : Nat) < 4398046511104 by decide), Option.bind_some, hr]
  simp only [if_pos (show 0 ≤ (i : Int) by omega), if_pos (show (i : Int) < ((4 : Nat) : Int) by omega)]
  rw [wrap_id (x := -3 * (l.getD i z25).f0) (by omega) (by omega), wrap_id (x := -3 * (l.getD i z25).f1) (by omega) (by omega), wrap_id (x := -3 * (l.getD i z25).f2) (by omega) (by omega), wrap_id (x := -3 * (l.getD i z25).f3) (by omega) (by omega)]
  exact h

def qf (x : S25) : Int := x.f2 * x.f2 + x.f3 * x.f3 - x.f0 * x.f1
def mix (x y z w : S25) : S25 := ⟨2 * (y.f0 + z.f0 + w.f0) - x.f0, 2 * (y.f1 + z.f1 + w.f1) - x.f1, 2 * (y.f2 + z.f2 + w.f2) - x.f2, 2 * (y.f3 + z.f3 + w.f3) - x.f3⟩
theorem tw_lin (x y z w u : S25) : twi (mix x y z w) u = 2 * (twi y u + twi z u + twi w u) - twi x u := by
  unfold twi mix
  grind
theorem tw_self (y : S25) : twi y y = 2 * qf y := by
  unfold twi qf
  grind
theorem mix_ok {x y z w : S25} (hx : qf x = 1) (hy : qf y = 1) (hz : qf z = 1) (hw : qf w = 1) (xy : twi x y = -2) (xz : twi x z = -2) (xw : twi x w = -2) (yz : twi y z = -2) (yw : twi y w = -2) (zw : twi z w = -2) :
    qf (mix x y z w) = 1 ∧ twi (mix x y z w) y = -2 ∧ twi (mix x y z w) z = -2 ∧ twi (mix x y z w) w = -2 := by
  have sx := tw_self x
  have sy := tw_self y
  have sz := tw_self z
  have sw := tw_self w
  have sn := tw_self (mix x y z w)
  have ny := tw_lin x y z w y
  have nz := tw_lin x y z w z
  have nw := tw_lin x y z w w
  have nx := tw_lin x y z w x
  have nn := tw_lin x y z w (mix x y z w)
  rw [twi_comm z y, twi_comm w y] at ny
  rw [twi_comm w z] at nz
  rw [twi_comm y x, twi_comm z x, twi_comm w x] at nx
  rw [twi_comm y (mix x y z w), twi_comm z (mix x y z w), twi_comm w (mix x y z w), twi_comm x (mix x y z w)] at nn
  omega
theorem cfgB_iff {l : List S25} : cfgB l = true ↔ ∃ a b c d, l = [a, b, c, d] ∧ (isC a = true ∧ isC b = true ∧ isC c = true ∧ isC d = true) ∧ twi a b = -2 ∧ twi a c = -2 ∧ twi a d = -2 ∧ twi b c = -2 ∧ twi b d = -2 ∧ twi c d = -2 := by
  constructor
  · intro h
    unfold cfgB at h
    simp only [Bool.and_eq_true] at h
    obtain ⟨a, b, c, d, rfl, h4⟩ := (fourB_iff l).1 h.1
    have h2 := h.2
    simp only [pairs4, Bool.and_eq_true, decide_eq_true_eq] at h2
    obtain ⟨p1, p2, p3, p4, p5, p6⟩ := h2
    rw [twi_comm] at p1 p2 p3 p4 p5 p6
    exact ⟨a, b, c, d, rfl, h4, p1, p2, p4, p3, p5, p6⟩
  · rintro ⟨a, b, c, d, rfl, h4, p1, p2, p4, p3, p5, p6⟩
    unfold cfgB
    rw [(fourB_iff _).2 ⟨a, b, c, d, rfl, h4⟩]
    rw [twi_comm] at p1 p2 p3 p4 p5 p6
    simp [pairs4, p1, p2, p3, p4, p5, p6]
theorem isC_q {x : S25} (h : isC x = true) : qf x = 1 := ((isC_iff x).1 h).2
theorem isC_mix {x : S25} (h : qf x = 1) : isC x = inC x := by
  rw [Bool.eq_iff_iff, isC_iff, inC_iff]
  exact ⟨fun q => q.1, fun q => ⟨q, h⟩⟩
theorem tk4 (g : S25 → Int) (a b c d : S25) : tk g [a, b, c, d] 4 = g a + g b + g c + g d := by
  simp [tk]
  omega
theorem nc0 (a b c d : S25) : nc [a, b, c, d] 0 = mix a b c d := by
  unfold nc cp mix
  simp only [List.length_cons, List.length_nil, Nat.zero_add, Nat.reduceAdd, tk4, List.getD_cons_zero, S25.mk.injEq]
  omega
theorem nc1 (a b c d : S25) : nc [a, b, c, d] 1 = mix b a c d := by
  unfold nc cp mix
  simp only [List.length_cons, List.length_nil, Nat.zero_add, Nat.reduceAdd, tk4, List.getD_cons_succ, List.getD_cons_zero, S25.mk.injEq]
  omega
theorem nc2 (a b c d : S25) : nc [a, b, c, d] 2 = mix c a b d := by
  unfold nc cp mix
  simp only [List.length_cons, List.length_nil, Nat.zero_add, Nat.reduceAdd, tk4, List.getD_cons_succ, List.getD_cons_zero, S25.mk.injEq]
  omega
theorem nc3 (a b c d : S25) : nc [a, b, c, d] 3 = mix d a b c := by
  unfold nc cp mix
  simp only [List.length_cons, List.length_nil, Nat.zero_add, Nat.reduceAdd, tk4, List.getD_cons_succ, List.getD_cons_zero, S25.mk.injEq]
  omega
theorem cfg_swc {l : List S25} (h : cfgB l = true) {i : Nat} (hi : i < 4) : isC (nc l i) = inC (nc l i) ∧ (inC (nc l i) = true → cfgB (swc l i) = true) := by
  obtain ⟨a, b, c, d, rfl, ⟨ha, hb, hc, hd⟩, ab, ac, ad, bc, bd, cd⟩ := cfgB_iff.1 h
  have qa := isC_q ha
  have qb := isC_q hb
  have qc := isC_q hc
  have qd := isC_q hd
  unfold swc
  match i, hi with
  | 0, _ =>
    rw [nc0]
    obtain ⟨m0, m1, m2, m3⟩ := mix_ok qa qb qc qd ab ac ad bc bd cd
    exact ⟨isC_mix m0, fun q => cfgB_iff.2 ⟨_, b, c, d, rfl, ⟨(isC_mix m0).trans q, hb, hc, hd⟩, m1, m2, m3, bc, bd, cd⟩⟩
  | 1, _ =>
    rw [nc1]
    obtain ⟨m0, m1, m2, m3⟩ := mix_ok qb qa qc qd (by rw [twi_comm]; exact ab) bc bd ac ad cd
    exact ⟨isC_mix m0, fun q => cfgB_iff.2 ⟨a, _, c, d, rfl, ⟨ha, (isC_mix m0).trans q, hc, hd⟩, by rw [twi_comm]; exact m1, ac, ad, m2, m3, cd⟩⟩
  | 2, _ =>
    rw [nc2]
    obtain ⟨m0, m1, m2, m3⟩ := mix_ok qc qa qb qd (by rw [twi_comm]; exact ac) (by rw [twi_comm]; exact bc) cd ab ad bd
    exact ⟨isC_mix m0, fun q => cfgB_iff.2 ⟨a, b, _, d, rfl, ⟨ha, hb, (isC_mix m0).trans q, hd⟩, ab, by rw [twi_comm]; exact m1, ad, by rw [twi_comm]; exact m2, bd, m3⟩⟩
  | 3, _ =>
    rw [nc3]
    obtain ⟨m0, m1, m2, m3⟩ := mix_ok qd qa qb qc (by rw [twi_comm]; exact ad) (by rw [twi_comm]; exact bd) (by rw [twi_comm]; exact cd) ab ac bc
    exact ⟨isC_mix m0, fun q => cfgB_iff.2 ⟨a, b, c, _, rfl, ⟨ha, hb, hc, (isC_mix m0).trans q⟩, ab, ac, by rw [twi_comm]; exact m1, bc, by rw [twi_comm]; exact m2, by rw [twi_comm]; exact m3⟩⟩
  | (i + 4), h => omega
theorem cfg_len {l : List S25} (h : cfgB l = true) : l.length = 4 := by
  obtain ⟨a, b, c, d, rfl, _⟩ := cfgB_iff.1 h
  rfl
theorem cfg_bnd {l : List S25} (h : cfgB l = true) : ∀ x ∈ l, bndC x := by
  obtain ⟨a, b, c, d, rfl, ⟨ha, hb, hc, hd⟩, _⟩ := cfgB_iff.1 h
  intro x hx
  simp at hx
  rcases hx with rfl | rfl | rfl | rfl
  · exact isC_bnd ha
  · exact isC_bnd hb
  · exact isC_bnd hc
  · exact isC_bnd hd
theorem swc_length (l : List S25) (i : Nat) : (swc l i).length = l.length := by simp [swc]
theorem swc_get {l : List S25} {i : Nat} (h : i < l.length) : rd_T25 (swc l i) (i : Int) = nc l i := by
  rw [rdC_at (by rw [swc_length]; exact h)]
  simp [swc]

def runC (l : List S25) : List Int → List S25 × Bool
  | [] => (l, true)
  | i :: w => if inC (nc l i.toNat) = true then runC (swc l i.toNat) w else ([], false)
theorem runC_len (w : List Int) : ∀ l : List S25, l.length ≤ 4 → (runC l w).1.length ≤ 4 := by
  induction w with
  | nil => intro l h; exact h
  | cons i w ih =>
    intro l h
    simp only [runC]
    split
    · exact ih _ (by rw [swc_length]; exact h)
    · simp
theorem in03 {w : List Int} (h : w.all (inB 0 3) = true) {j : Nat} (hj : j < w.length) : 0 ≤ w[j] ∧ w[j] ≤ 3 := by
  have := List.all_eq_true.1 h w[j] (List.getElem_mem hj)
  exact inB_iff.1 this
theorem folS_l (w : List Int) (hw : w.all (inB 0 3) = true) (hl : w.length ≤ 1000) (d : Nat) : ∀ (j : Nat) (q : List S25), j + d = w.length → cfgB q = true → Ev (fun k => spec_FollowCircles.l0 k q w (w.length : Int) (j : Int)) (runC q (w.drop j)) := by
  induction d with
  | zero =>
    intro j q hj hq
    rw [List.drop_of_length_le (by omega)]
    refine Ev.step (f := fun _ => some (q, true)) (fun k => ?_) (Ev.now _)
    simp only [spec_FollowCircles.l0]
    rw [if_neg (by omega)]
  | succ d ih =>
    intro j q hj hq
    have hjl : j < w.length := by omega
    have hb := in03 hw hjl
    obtain ⟨i, hi⟩ : ∃ i : Nat, w[j] = i := ⟨w[j].toNat, by omega⟩
    have hi4 : i < 4 := by omega
    have h4 := cfg_len hq
    have hs := ciSwap_ev q h4 (cfg_bnd hq) hi4
    have hg := ciGood_ev (nc q i).f0 (nc q i).f1 (nc q i).f2 (nc q i).f3
    obtain ⟨c1, c2⟩ := cfg_swc hq hi4
    rw [show (⟨(nc q i).f0, (nc q i).f1, (nc q i).f2, (nc q i).f3⟩ : S25) = nc q i from rfl, c1] at hg
    rw [List.drop_eq_getElem_cons hjl, hi]
    simp only [runC, Int.toNat_natCast]
    refine Ev.step (f := fun k => (spec_ciSwap.f k q (i : Int)).bind fun t692 => (if 0 ≤ (i : Int) then (if (i : Int) < (t692.length : Int) then ((spec_ciGood.f k ((rd_T25 t692 (i : Int)).f0) ((rd_T25 t692 (i : Int)).f1) ((rd_T25 t692 (i : Int)).f2) ((rd_T25 t692 (i : Int)).f3)).bind fun t696 => (if t696 = true then (spec_FollowCircles.l0 k t692 w (w.length : Int) ((j + 1 : Nat) : Int)) else (some (([] : List (S25)), false)))) else (none)) else (none))) (fun k => ?_) ?_
    · simp only [spec_FollowCircles.l0]
      rw [if_pos (by omega), if_pos (by omega), if_pos (by omega), rdi_at hjl, hi, wrap_id (by omega) (by omega), show ((j : Int) + 1) = ((j + 1 : Nat) : Int) by omega]
    · refine Ev.bind hs ?_
      simp only [swc_length, h4, if_pos (show 0 ≤ (i : Int) by omega), if_pos (show (i : Int) < ((4 : Nat) : Int) by omega), swc_get (show i < q.length by omega)]
      refine Ev.bind hg ?_
      cases hqq : inC (nc q i) with
      | true => simp only [if_true]; exact ih (j + 1) (swc q i) (by omega) (c2 hqq)
      | false => simp only [Bool.false_eq_true, if_false]; exact Ev.now _
theorem folI_l (w : List Int) (hw : w.all (inB 0 3) = true) (hl : w.length ≤ 1000) (d : Nat) : ∀ (j : Nat) (q : List S25), j + d = w.length → cfgB q = true → Ev (fun k => impl_FollowCircles.l0 k q w (w.length : Int) (j : Int)) (runC q (w.drop j)) := by
  induction d with
  | zero =>
    intro j q hj hq
    rw [List.drop_of_length_le (by omega)]
    refine Ev.step (f := fun _ => some (q, true)) (fun k => ?_) (Ev.now _)
    simp only [impl_FollowCircles.l0]
    rw [if_neg (by omega)]
  | succ d ih =>
    intro j q hj hq
    have hjl : j < w.length := by omega
    have hb := in03 hw hjl
    obtain ⟨i, hi⟩ : ∃ i : Nat, w[j] = i := ⟨w[j].toNat, by omega⟩
    have hi4 : i < 4 := by omega
    have h4 := cfg_len hq
    have hs := swapC_ev q h4 (cfg_bnd hq) hi4
    obtain ⟨c1, c2⟩ := cfg_swc hq hi4
    rw [List.drop_eq_getElem_cons hjl, hi]
    simp only [runC, Int.toNat_natCast]
    refine Ev.step (f := fun k => (impl_swapCircle.f k q (i : Int)).bind fun bt => if bt.2 = true then impl_FollowCircles.l0 k bt.1 w (w.length : Int) ((j + 1 : Nat) : Int) else some ([], false)) (fun k => ?_) ?_
    · simp only [impl_FollowCircles.l0]
      rw [if_pos (by omega), if_pos (by omega), if_pos (by omega), rdi_at hjl, hi, wrap_id (by omega) (by omega), show ((j : Int) + 1) = ((j + 1 : Nat) : Int) by omega]
    · refine Ev.bind hs ?_
      cases hqq : inC (nc q i) with
      | true => simp only [if_true]; exact ih (j + 1) (swc q i) (by omega) (c2 hqq)
      | false => simp only [Bool.false_eq_true, if_false]; exact Ev.now _
def folR (l : List S25) (w : List Int) : List S25 × Bool := if cfgB l = true ∧ w.length ≤ 40 ∧ w.all (inB 0 3) = true then runC l w else ([], false)
theorem folR_len (l : List S25) (w : List Int) : (folR l w).1.length ≤ 4 := by
  unfold folR
  split
  · rename_i h
    exact runC_len w l (by have := cfg_len h.1; omega)
  · simp
theorem folI_ev (l : List S25) (w : List Int) : Ev (fun k => impl_FollowCircles.f k l w) (folR l w) := by
  have hu := isConfig_ev l
  have ji : Ev (fun k => impl_FollowCircles.j0 k l w true) (([] : List S25), false) := Ev.step (fun _ => impl_FollowCircles.j0.eq_2 ..) (by simp only [if_true]; exact Ev.now _)
  unfold impl_FollowCircles.f impl_allWithin.f folR
  refine Ev.bind hu ?_
  cases hq : cfgB l with
  | false => simp only [Bool.false_eq_true, if_false, false_and]; exact ji
  | true =>
    simp only [if_true, true_and]
    by_cases hw : (w.length : Int) > 40
    · simp only [if_pos hw, if_neg (show ¬ (w.length ≤ 40 ∧ w.all (inB 0 3) = true) by omega)]
      exact ji
    · simp only [if_neg hw, Option.bind_some]
      cases hall : w.all (inB 0 3) with
      | false => simp only [Bool.false_eq_true, and_false, if_false, Bool.not_false]; exact ji
      | true =>
        simp only [and_true, if_pos (show w.length ≤ 40 by omega), Bool.not_true]
        have ei := folI_l w hall (by omega) w.length 0 l (by omega) hq
        rw [List.drop_zero] at ei
        refine Ev.step (fun _ => impl_FollowCircles.j0.eq_2 ..) ?_
        unfold impl_Circle.f
        simp only [Bool.false_eq_true, if_false, cfg_len hq, if_pos (show 4 < 4398046511104 by decide), Option.bind_some]
        exact ei
theorem folS_ev (l : List S25) (w : List Int) (hlw : (w.length : Int) ≤ 9223372036854775806) : Ev (fun k => spec_FollowCircles.f k l w) (folR l w) := by
  have hu := ciConfig_ev l
  have js : Ev (fun k => spec_FollowCircles.j0 k l w true) (([] : List S25), false) := Ev.step (fun _ => spec_FollowCircles.j0.eq_2 ..) (by simp only [if_true]; exact Ev.now _)
  unfold spec_FollowCircles.f folR
  refine Ev.bind hu ?_
  cases hq : cfgB l with
  | false => simp only [Bool.false_eq_true, if_false, false_and]; exact js
  | true =>
    simp only [if_true, true_and]
    by_cases hw : (w.length : Int) > 40
    · simp only [if_pos hw, if_neg (show ¬ (w.length ≤ 40 ∧ w.all (inB 0 3) = true) by omega)]
      exact js
    · simp only [if_neg hw]
      have ha := l1All_ev 0 3 w hlw
      cases hall : w.all (inB 0 3) with
      | false =>
        rw [hall] at ha
        simp only [Bool.false_eq_true, and_false, if_false]
        exact Ev.bind ha js
      | true =>
        rw [hall] at ha
        simp only [and_true, if_pos (show w.length ≤ 40 by omega)]
        have ei := folS_l w hall (by omega) w.length 0 l (by omega) hq
        rw [List.drop_zero] at ei
        refine Ev.bind ha ?_
        refine Ev.step (fun _ => spec_FollowCircles.j0.eq_2 ..) ?_
        simp only [Bool.not_true, Bool.false_eq_true, if_false, Option.bind_some, List.length_nil, List.nil_append, cfg_len hq, if_pos (show 0 + 4 < 4398046511104 by decide)]
        exact ei

end Go.Proofs.Ytjnpopipdnaaiaa.P
