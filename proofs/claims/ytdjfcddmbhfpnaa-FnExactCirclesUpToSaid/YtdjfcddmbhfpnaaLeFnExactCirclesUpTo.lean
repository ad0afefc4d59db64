import Derived.Test.YtdjfcddmbhfpnaaP0
import Derived.Test.YtdjfcddmbhfpnaaP1
import Derived.Test.YtdjfcddmbhfpnaaP2
import Derived.Test.YtdjfcddmbhfpnaaP3
import Derived.Test.YtdjfcddmbhfpnaaP4
import Derived.Test.YtdjfcddmbhfpnaaP5
import Derived.Test.YtdjfcddmbhfpnaaP6
import Derived.Test.YtdjfcddmbhfpnaaP7
import Derived.Test.YtdjfcddmbhfpnaaP8
import Derived.Test.YtdjfcddmbhfpnaaP9
import Derived.Test.YtdjfcddmbhfpnaaP10
import Derived.Test.YtdjfcddmbhfpnaaP11
import Derived.Test.YtdjfcddmbhfpnaaP12
import Derived.Test.YtdjfcddmbhfpnaaP13
import Derived.Test.YtdjfcddmbhfpnaaP14
import Derived.Test.YtdjfcddmbhfpnaaP15
import Derived.Test.YtdjfcddmbhfpnaaP16
import Derived.Test.YtdjfcddmbhfpnaaP17
namespace Go.Proofs.Ytdjfcddmbhfpnaa.P
open Go.RowKit Go.Proofs.YtdjfcddmbhfpnaaW.PrintWords Go.Proofs.YtdjfcddmbhfpnaaW.PrintLast Go.Proofs.YtdjfcddmbhfpnaaW.PrintMore
theorem l1Own_f (l : List Int) (h : l.length < 17592186044416) : spec_l1Own.f l = some l := by
  unfold spec_l1Own.f
  simp [h]

theorem wrap_id {x : Int} (h0 : -9223372036854775808 ≤ x) (h1 : x ≤ 9223372036854775807) : wrap64 x = x := by unfold wrap64; omega
theorem rdi_at {l : List Int} {i : Nat} (h : i < l.length) : rd l (i : Int) = l[i] := by simp [rd, List.getD_eq_getElem?_getD, List.getElem?_eq_getElem h]
theorem l1In_f (x lo hi : Int) : spec_l1In.f x lo hi = some (inB lo hi x) := by
  unfold spec_l1In.f inB
  by_cases h : x ≥ lo
  · rw [if_pos h]; simp [show lo ≤ x from h]
  · rw [if_neg h]; simp [show ¬ lo ≤ x from h]
theorem inB_iff {lo hi x : Int} : inB lo hi x = true ↔ lo ≤ x ∧ x ≤ hi := by simp [inB]
theorem Ev.all {α : Type} {f : Option α} {r : α} (h : f = some r) : Ev (fun _ => f) r := ⟨0, fun _ _ => h⟩
theorem Ev.from {α : Type} {g : Nat → Option α} {r : α} (K : Nat) (h : ∀ k, K < k → g k = some r) : Ev g r := ⟨K + 1, fun k hk => h k (by omega)⟩
theorem l1All_l (lo hi : Int) (l : List Int) (hl : (l.length : Int) ≤ 9223372036854775806) (d : Nat) : ∀ (i k : Nat), i + d = l.length → d < k → spec_l1All.l0 k lo hi l (l.length : Int) (i : Int) = some ((l.drop i).all (inB lo hi)) := by
  induction d with
  | zero =>
    intro i k hi' hk
    obtain ⟨k, rfl⟩ : ∃ m, k = m + 1 := ⟨k - 1, by omega⟩
    simp only [spec_l1All.l0]
    rw [if_neg (by omega), List.drop_of_length_le (by omega)]
    rfl
  | succ d ih =>
    intro i k hi' hk
    obtain ⟨k, rfl⟩ : ∃ m, k = m + 1 := ⟨k - 1, by omega⟩
    have hil : i < l.length := by omega
    simp only [spec_l1All.l0]
    rw [if_pos (by omega), if_pos (by omega), if_pos (by omega), l1In_f, rdi_at hil, wrap_id (by omega) (by omega)]
    simp only [Option.bind_some]
    rw [List.drop_eq_getElem_cons hil, List.all_cons]
    cases inB lo hi l[i] with
    | false => simp
    | true =>
      simp only [if_true, Bool.true_and]
      exact ih (i + 1) k (by omega) (by omega)
theorem l1All_ev (lo hi : Int) (l : List Int) (hl : (l.length : Int) ≤ 9223372036854775806) : Ev (fun k => spec_l1All.f k l lo hi) (l.all (inB lo hi)) :=
  Ev.from l.length (fun k hk => by
    have := l1All_l lo hi l hl l.length 0 k (by omega) hk
    simpa [spec_l1All.f] using this)
def bnd (x : Int) : Prop := -1000000 ≤ x ∧ x ≤ 1000000
theorem sqb {a b A B : Int} (h0 : -A ≤ a) (h1 : a ≤ A) (h2 : -B ≤ b) (h3 : b ≤ B) : -(A * B) ≤ a * b ∧ a * b ≤ A * B := by
  have p1 := Int.mul_nonneg (show 0 ≤ A - a by omega) (show 0 ≤ B + b by omega)
  have p2 := Int.mul_nonneg (show 0 ≤ A + a by omega) (show 0 ≤ B - b by omega)
  have p3 := Int.mul_nonneg (show 0 ≤ A - a by omega) (show 0 ≤ B - b by omega)
  have p4 := Int.mul_nonneg (show 0 ≤ A + a by omega) (show 0 ≤ B + b by omega)
  constructor <;> grind
theorem isC_iff (x : S39) : isC x = true ↔ (bnd x.f0 ∧ bnd x.f1 ∧ bnd x.f2 ∧ bnd x.f3) ∧ x.f2 * x.f2 + x.f3 * x.f3 - x.f0 * x.f1 = 1 := by
  unfold isC bnd
  simp only [List.all_cons, List.all_nil, Bool.and_true, Bool.and_eq_true, inB_iff, beq_iff_eq]
  constructor
  · rintro ⟨⟨h0, h1, h2, h3⟩, h⟩
    have a := sqb (A := 1000000) (B := 1000000) (by omega) h0.2 (by omega) h1.2
    have b := sqb (A := 1000000) (B := 1000000) (by omega) h2.2 (by omega) h2.2
    have c := sqb (A := 1000000) (B := 1000000) (by omega) h3.2 (by omega) h3.2
    rw [wrap_id (x := x.f2 * x.f2) (by omega) (by omega), wrap_id (x := x.f3 * x.f3) (by omega) (by omega), wrap_id (x := x.f0 * x.f1) (by omega) (by omega), wrap_id (x := x.f2 * x.f2 + x.f3 * x.f3) (by omega) (by omega), wrap_id (by omega) (by omega)] at h
    exact ⟨⟨h0, h1, h2, h3⟩, h⟩
  · rintro ⟨⟨h0, h1, h2, h3⟩, h⟩
    have a := sqb (A := 1000000) (B := 1000000) (by omega) h0.2 (by omega) h1.2
    have b := sqb (A := 1000000) (B := 1000000) (by omega) h2.2 (by omega) h2.2
    have c := sqb (A := 1000000) (B := 1000000) (by omega) h3.2 (by omega) h3.2
    rw [wrap_id (x := x.f2 * x.f2) (by omega) (by omega), wrap_id (x := x.f3 * x.f3) (by omega) (by omega), wrap_id (x := x.f0 * x.f1) (by omega) (by omega), wrap_id (x := x.f2 * x.f2 + x.f3 * x.f3) (by omega) (by omega), wrap_id (x := x.f2 * x.f2 + x.f3 * x.f3 - x.f0 * x.f1) (by omega) (by omega)]
    exact ⟨⟨h0, h1, h2, h3⟩, h⟩
theorem ciGood_ev (a b c d : Int) : Ev (fun k => spec_ciGood.f k a b c d) (isC ⟨a, b, c, d⟩) := by
  have h := l1All_ev (-1000000) 1000000 [a, b, c, d] (by simp)
  unfold spec_ciGood.f
  refine Ev.bind h ?_
  unfold isC
  cases ([a, b, c, d] : List Int).all (inB (-1000000) 1000000) with
  | true => simp only [if_true]; exact Ev.now _
  | false => simp only [Bool.false_eq_true, if_false]; exact Ev.now _
theorem eqCircle_f (a b c d : Int) : laws_eqCircle.f a b c d a b c d = some true := by
  unfold laws_eqCircle.f
  simp
/-- bounds alone: what 'drawn' asks. -/
def inC (x : S39) : Bool := ([x.f0, x.f1, x.f2, x.f3] : List Int).all (inB (-1000000) 1000000)
theorem inC_iff (x : S39) : inC x = true ↔ bnd x.f0 ∧ bnd x.f1 ∧ bnd x.f2 ∧ bnd x.f3 := by
  unfold inC bnd
  simp only [List.all_cons, List.all_nil, Bool.and_true, Bool.and_eq_true, inB_iff]
/-- the twice product, in whole numbers -/
def twi (x y : S39) : Int := 2 * x.f2 * y.f2 + 2 * x.f3 * y.f3 - x.f0 * y.f1 - x.f1 * y.f0
theorem twi_b {x y : S39} (hx : bnd x.f0 ∧ bnd x.f1 ∧ bnd x.f2 ∧ bnd x.f3) (hy : bnd y.f0 ∧ bnd y.f1 ∧ bnd y.f2 ∧ bnd y.f3) : -6000000000000 ≤ twi x y ∧ twi x y ≤ 6000000000000 ∧ impl_twice.f x.f0 x.f1 x.f2 x.f3 y.f0 y.f1 y.f2 y.f3 = some (twi x y) := by
  unfold bnd at hx hy
  have a := sqb (a := 2 * x.f2) (b := y.f2) (A := 2000000) (B := 1000000) (by omega) (by omega) (by omega) (by omega)
  have b := sqb (a := 2 * x.f3) (b := y.f3) (A := 2000000) (B := 1000000) (by omega) (by omega) (by omega) (by omega)
  have c := sqb (a := x.f0) (b := y.f1) (A := 1000000) (B := 1000000) (by omega) (by omega) (by omega) (by omega)
  have d := sqb (a := x.f1) (b := y.f0) (A := 1000000) (B := 1000000) (by omega) (by omega) (by omega) (by omega)
  refine ⟨by unfold twi; omega, by unfold twi; omega, ?_⟩
  unfold impl_twice.f twi
  rw [wrap_id (x := 2 * x.f2) (by omega) (by omega), wrap_id (x := 2 * x.f3) (by omega) (by omega), wrap_id (x := 2 * x.f2 * y.f2) (by omega) (by omega), wrap_id (x := 2 * x.f3 * y.f3) (by omega) (by omega), wrap_id (x := x.f0 * y.f1) (by omega) (by omega), wrap_id (x := x.f1 * y.f0) (by omega) (by omega), wrap_id (x := 2 * x.f2 * y.f2 + 2 * x.f3 * y.f3) (by omega) (by omega), wrap_id (x := 2 * x.f2 * y.f2 + 2 * x.f3 * y.f3 - x.f0 * y.f1) (by omega) (by omega), wrap_id (x := 2 * x.f2 * y.f2 + 2 * x.f3 * y.f3 - x.f0 * y.f1 - x.f1 * y.f0) (by omega) (by omega)]
theorem ciTwice_f (a b c d e f g h : Int) : spec_ciTwice.f a b c d e f g h = impl_twice.f a b c d e f g h := rfl
def mkC : Int → Nat → List S39
  | _, 0 => []
  | m, n + 1 => ⟨m, m + 1, m + 2, m + 3⟩ :: mkC (m + 4) n
theorem mkC_length (n : Nat) : ∀ m, (mkC m n).length = n := by
  induction n with
  | zero => intro m; rfl
  | succ n ih => intro m; simp [mkC, ih]
theorem rdC_at {l : List S39} {i : Nat} (h : i < l.length) : rd_T39 l (i : Int) = l[i] := by simp [rd_T39, List.getD_eq_getElem?_getD, List.getElem?_eq_getElem h]
theorem rdC3_at {l : List S46} {i : Nat} (h : i < l.length) : rd_T46 l (i : Int) = l[i] := by simp [rd_T46, List.getD_eq_getElem?_getD, List.getElem?_eq_getElem h]
theorem eqCircleS_l (l : List S39) (hl : (l.length : Int) ≤ 9223372036854775806) (d : Nat) : ∀ (i : Nat) (k : Nat), i + d = l.length → d < k → laws_eqCircleS.l0 k l l (i : Int) = some true := by
  induction d with
  | zero =>
    intro i k hi hk
    obtain ⟨k, rfl⟩ : ∃ m, k = m + 1 := ⟨k - 1, by omega⟩
    simp only [laws_eqCircleS.l0]
    rw [if_neg (by omega)]
  | succ d ih =>
    intro i k hi hk
    obtain ⟨k, rfl⟩ : ∃ m, k = m + 1 := ⟨k - 1, by omega⟩
    simp only [laws_eqCircleS.l0]
    rw [if_pos (by omega), if_pos (by omega), if_pos (by omega), eqCircle_f, wrap_id (by omega) (by omega)]
    simp only [Option.bind_some, if_true]
    exact ih (i + 1) k (by omega) (by omega)
theorem eqCircleS_refl (l : List S39) (hl : (l.length : Int) ≤ 9223372036854775806) (k : Nat) (hk : l.length < k) : laws_eqCircleS.f k l l = some true := by
  unfold laws_eqCircleS.f
  rw [if_pos rfl]
  exact eqCircleS_l l hl l.length 0 k (by omega) hk
theorem eqCircleS_ev (l : List S39) (hl : (l.length : Int) ≤ 9223372036854775806) : Ev (fun k => laws_eqCircleS.f k l l) true := Ev.from l.length (fun k hk => eqCircleS_refl l hl k hk)
theorem markCircleS_l (d : Nat) : ∀ (i : Nat) (k : Nat) (x0 : List S39) (x1 : Int), i + d = x0.length → d < k → (x0.length : Int) ≤ 1152921504606846976 → 0 ≤ x1 → x1 + 4 * d ≤ 9223372036854775800 →
    laws_markCircleS.l0 k x0 x1 (i : Int) = some (x1 + 4 * d, x0.take i ++ mkC x1 d) := by
  induction d with
  | zero =>
    intro i k x0 x1 hi hk _ _ _
    obtain ⟨k, rfl⟩ : ∃ m, k = m + 1 := ⟨k - 1, by omega⟩
    simp only [laws_markCircleS.l0]
    rw [if_neg (by omega), List.take_of_length_le (by omega)]
    simp [mkC]
  | succ d ih =>
    intro i k x0 x1 hi hk h1 h2 h3
    obtain ⟨k, rfl⟩ : ∃ m, k = m + 1 := ⟨k - 1, by omega⟩
    have hil : i < x0.length := by omega
    simp only [laws_markCircleS.l0]
    rw [if_pos (by omega), if_pos (by omega), wrap_id (x := x1 + 1) (by omega) (by omega), wrap_id (x := x1 + 1 + 1) (by omega) (by omega), wrap_id (x := x1 + 1 + 1 + 1) (by omega) (by omega), wrap_id (x := x1 + 1 + 1 + 1 + 1) (by omega) (by omega), wrap_id (x := (i : Int) + 1) (by omega) (by omega)]
    simp only [Option.bind_some, Int.toNat_natCast]
    have e2 : ∀ (l : List S39) (y : S39), i < l.length → rd_T39 (l.set i y) (i : Int) = y := fun l y h => by
      rw [rdC_at (by simpa using h)]
      simp
    rw [e2 _ _ hil]
    simp only [List.set_set]
    rw [e2 _ _ hil]
    simp only [List.set_set]
    rw [e2 _ _ hil]
    simp only [List.set_set]
    have := ih (i + 1) k (x0.set i ⟨x1, x1 + 1, x1 + 1 + 1, x1 + 1 + 1 + 1⟩) (x1 + 1 + 1 + 1 + 1) (by simp; omega) (by omega) (by simp; omega) (by omega) (by omega)
    rw [show ((i : Int) + 1) = ((i + 1 : Nat) : Int) by omega, this]
    congr 1
    refine Prod.ext (by simp only; omega) ?_
    simp only [mkC]
    rw [List.take_succ_eq_append_getElem (by simp; omega), List.take_set, List.set_eq_of_length_le (by simp; omega)]
    simp only [List.getElem_set_self, List.append_assoc, List.singleton_append]
    rw [show x1 + 1 + 1 = x1 + 2 by omega, show x1 + 2 + 1 = x1 + 3 by omega, show x1 + 3 + 1 = x1 + 4 by omega]
theorem markCircleS_f (l : List S39) (m : Int) (k : Nat) (hk : l.length < k) (h1 : (l.length : Int) ≤ 1152921504606846976) (h2 : 0 ≤ m) (h3 : m + 4 * l.length ≤ 9223372036854775800) : laws_markCircleS.f k l m = some (m + 4 * l.length, mkC m l.length) := by
  unfold laws_markCircleS.f
  have := markCircleS_l l.length 0 k l m (by omega) hk h1 h2 h3
  simpa using this
theorem markCircleS_ev (l : List S39) (h1 : (l.length : Int) ≤ 1152921504606846976) : Ev (fun k => laws_markCircleS.f k l 1) (1 + 4 * (l.length : Int), mkC 1 l.length) := Ev.from l.length (fun k hk => markCircleS_f l 1 k hk h1 (by omega) (by omega))
theorem heldCircleS_l (d : Nat) : ∀ (i : Nat) (k : Nat) (x0 : List S39) (x1 : Int), i + d = x0.length → x0.drop i = mkC x1 d → d < k → (x0.length : Int) ≤ 1152921504606846976 → 0 ≤ x1 → x1 + 4 * d ≤ 9223372036854775800 →
    laws_heldCircleS.l0 k x0 x1 (i : Int) = some (x1 + 4 * d) := by
  induction d with
  | zero =>
    intro i k x0 x1 hi _ hk _ _ _
    obtain ⟨k, rfl⟩ : ∃ m, k = m + 1 := ⟨k - 1, by omega⟩
    simp only [laws_heldCircleS.l0]
    rw [if_neg (by omega)]
    simp
  | succ d ih =>
    intro i k x0 x1 hi hx hk h1 h2 h3
    obtain ⟨k, rfl⟩ : ∃ m, k = m + 1 := ⟨k - 1, by omega⟩
    have hil : i < x0.length := by omega
    rw [List.drop_eq_getElem_cons hil, mkC] at hx
    injection hx with hx0 hx1
    simp only [laws_heldCircleS.l0]
    rw [if_pos (by omega), if_pos (by omega), rdC_at hil, hx0, wrap_id (x := x1 + 1) (by omega) (by omega), wrap_id (x := x1 + 1 + 1) (by omega) (by omega), wrap_id (x := x1 + 1 + 1 + 1) (by omega) (by omega), wrap_id (x := x1 + 1 + 1 + 1 + 1) (by omega) (by omega), wrap_id (x := (i : Int) + 1) (by omega) (by omega)]
    rw [if_pos rfl, if_pos rfl, if_pos (by simp only; omega), if_pos (by simp only; omega)]
    have := ih (i + 1) k x0 (x1 + 1 + 1 + 1 + 1) (by omega) (by rw [hx1, show x1 + 4 = x1 + 1 + 1 + 1 + 1 by omega]) (by omega) h1 (by omega) (by omega)
    rw [show ((i : Int) + 1) = ((i + 1 : Nat) : Int) by omega, this]
    congr 1
    omega
theorem heldCircleS_ev (n : Nat) (h1 : (n : Int) ≤ 1152921504606846976) : Ev (fun k => laws_heldCircleS.f k (mkC 1 n) 1) (1 + 4 * (n : Int)) := Ev.from n (fun k hk => by
  unfold laws_heldCircleS.f
  have := heldCircleS_l n 0 k (mkC 1 n) 1 (by simp [mkC_length]) (by simp) hk (by simp [mkC_length]; omega) (by omega) (by omega)
  simpa using this)
def toC (x : S46) : S39 := ⟨x.f0, x.f1, x.f2, x.f3⟩
theorem toCircleS_l (d : Nat) : ∀ (i k : Nat) (l : List S46) (x : List S39), i + d = l.length → x.length = l.length → x.take i = (l.map toC).take i → d < k → (l.length : Int) ≤ 9223372036854775806 → laws_toCircleS.l0 k l x (i : Int) = some (l.map toC) := by
  induction d with
  | zero =>
    intro i k l x hi hx ht hk hl
    obtain ⟨k, rfl⟩ : ∃ m, k = m + 1 := ⟨k - 1, by omega⟩
    simp only [laws_toCircleS.l0]
    rw [if_neg (by omega)]
    rw [List.take_of_length_le (by omega), List.take_of_length_le (by simp; omega)] at ht
    rw [ht]
  | succ d ih =>
    intro i k l x hi hx ht hk hl
    obtain ⟨k, rfl⟩ : ∃ m, k = m + 1 := ⟨k - 1, by omega⟩
    have hil : i < l.length := by omega
    simp only [laws_toCircleS.l0, laws_toCircle.f]
    rw [if_pos (by omega), if_pos (by omega), rdC3_at hil]
    simp only [Option.bind_some]
    rw [if_pos (by omega), wrap_id (by omega) (by omega)]
    simp only [Int.toNat_natCast]
    rw [show ((i : Int) + 1) = ((i + 1 : Nat) : Int) by omega]
    refine ih (i + 1) k l _ (by omega) (by simpa using hx) ?_ (by omega) hl
    rw [List.take_succ_eq_append_getElem (by simp; omega), List.take_succ_eq_append_getElem (by simp; omega), List.take_set, List.set_eq_of_length_le (by simp; omega), ht]
    simp [toC]
theorem toCircleS_ev (l : List S46) (hl : l.length ≤ 8796093022208) : Ev (fun k => laws_toCircleS.f k l) (l.map toC) := Ev.from l.length (fun k hk => by
  unfold laws_toCircleS.f
  rw [if_pos (by omega), if_pos (by omega)]
  exact toCircleS_l l.length 0 k l _ (by omega) (by simp) (by simp) hk (by omega))
theorem szCircleS_f (l : List S46) (hl : l.length ≤ 8796093022208) : laws_szCircleS.f l 1048576 = some (if l.length ≤ 1048576 then 1048576 - (l.length : Int) else -1) := by
  unfold laws_szCircleS.f
  rw [wrap_id (by omega) (by omega)]
  by_cases h : l.length ≤ 1048576
  · rw [if_neg (by omega), if_pos h]
  · rw [if_pos (by omega), if_neg h]
def bndC (x : S39) : Prop := bnd x.f0 ∧ bnd x.f1 ∧ bnd x.f2 ∧ bnd x.f3
theorem twi_comm (x y : S39) : twi x y = twi y x := by unfold twi; grind
theorem twice_f {x y : S39} (hx : bndC x) (hy : bndC y) : impl_twice.f x.f0 x.f1 x.f2 x.f3 y.f0 y.f1 y.f2 y.f3 = some (twi x y) := (twi_b hx hy).2.2
theorem isC_bnd {x : S39} (h : isC x = true) : bndC x := ((isC_iff x).1 h).1
/-- the pairs of one circle with those behind it -/
def tl (c : S39) : List S39 → Nat → Nat → List (List Int)
  | [], _, _ => []
  | d :: ds, i, j => (if twi c d = -2 then [[(i : Int), (j : Int)]] else []) ++ tl c ds i (j + 1)
def pairsOf : List S39 → Nat → List (List Int)
  | [], _ => []
  | c :: cs, i => tl c cs i (i + 1) ++ pairsOf cs (i + 1)
theorem touching_A (l : List S39) (n : Nat) (hn : l.length = n) (hn1 : n ≤ 100000) (hb : ∀ x ∈ l, bndC x) (i : Nat) (hi : i < n) (F : Nat)
    (hB : ∀ (k : Nat) (x3 : List (List Int)), F < k → x3.length + (n - (i + 1)) * n ≤ 1000000000000 → impl_touching.l0 k l x3 l (n : Int) ((i + 1 : Nat) : Int) = some (x3 ++ pairsOf (l.drop (i + 1)) (i + 1))) (c : S39) (hc : bndC c) (d : Nat) :
    ∀ (j k : Nat) (x3 : List (List Int)), j + d = n → F + d + 1 < k → x3.length + d + (n - (i + 1)) * n ≤ 1000000000000 →
      impl_touching.l1 k l x3 (i : Int) (j : Int) l (n : Int) (i : Int) c.f0 c.f1 c.f2 c.f3 = some (x3 ++ tl c (l.drop j) i j ++ pairsOf (l.drop (i + 1)) (i + 1)) := by
  induction d with
  | zero =>
    intro j k x3 hj hk hx
    obtain ⟨k, rfl⟩ : ∃ m, k = m + 1 := ⟨k - 1, by omega⟩
    simp only [impl_touching.l1]
    rw [if_neg (by omega), wrap_id (by omega) (by omega), List.drop_of_length_le (by omega), show ((i : Int) + 1) = ((i + 1 : Nat) : Int) by omega, hB k x3 (by omega) (by omega)]
    simp [tl]
  | succ d ih =>
    intro j k x3 hj hk hx
    obtain ⟨k, rfl⟩ : ∃ m, k = m + 1 := ⟨k - 1, by omega⟩
    have hjl : j < l.length := by omega
    simp only [impl_touching.l1]
    rw [if_pos (by omega), if_pos (by omega), rdC_at hjl, twice_f hc (hb _ (List.getElem_mem hjl)), wrap_id (by omega) (by omega)]
    simp only [Option.bind_some]
    rw [List.drop_eq_getElem_cons hjl, tl, show ((j : Int) + 1) = ((j + 1 : Nat) : Int) by omega]
    by_cases ht : twi c l[j] = -2
    · rw [if_pos ht, if_pos (by omega), if_pos ht, ih (j + 1) k _ (by omega) (by omega) (by simp; omega)]
      simp
    · rw [if_neg ht, if_neg ht, ih (j + 1) k _ (by omega) (by omega) (by omega)]
      simp
theorem touching_B (l : List S39) (n : Nat) (hn : l.length = n) (hn1 : n ≤ 100000) (hb : ∀ x ∈ l, bndC x) (d : Nat) :
    ∀ (i k : Nat) (x3 : List (List Int)), i + d = n → d * (n + 3) < k → x3.length + (n - i) * n ≤ 1000000000000 → impl_touching.l0 k l x3 l (n : Int) (i : Int) = some (x3 ++ pairsOf (l.drop i) i) := by
  induction d with
  | zero =>
    intro i k x3 hi hk hx
    obtain ⟨k, rfl⟩ : ∃ m, k = m + 1 := ⟨k - 1, by omega⟩
    simp only [impl_touching.l0]
    rw [if_neg (by omega), List.drop_of_length_le (by omega)]
    simp [pairsOf]
  | succ d ih =>
    intro i k x3 hi hk hx
    obtain ⟨k, rfl⟩ : ∃ m, k = m + 1 := ⟨k - 1, by omega⟩
    have hil : i < l.length := by omega
    have e : (d + 1) * (n + 3) = d * (n + 3) + (n + 3) := by rw [Nat.add_mul]; omega
    have e2 : (n - i) * n = (n - (i + 1)) * n + n := by rw [show n - i = (n - (i + 1)) + 1 by omega, Nat.add_mul]; omega
    simp only [impl_touching.l0]
    rw [if_pos (by omega), if_pos (by omega), if_pos (by omega), rdC_at hil, wrap_id (by omega) (by omega), show ((i : Int) + 1) = ((i + 1 : Nat) : Int) by omega]
    rw [touching_A l n hn hn1 hb i (by omega) (d * (n + 3)) (fun k x3 hk hx => ih (i + 1) k x3 (by omega) hk hx) l[i] (hb _ (List.getElem_mem hil)) (n - (i + 1)) (i + 1) k x3 (by omega) (by omega) (by omega)]
    rw [List.drop_eq_getElem_cons hil, pairsOf, List.append_assoc]
theorem touching_ev (l : List S39) (hn1 : l.length ≤ 100000) (hb : ∀ x ∈ l, bndC x) : Ev (fun k => impl_touching.f k l) (pairsOf l 0) := Ev.from (l.length * (l.length + 3)) (fun k hk => by
  unfold impl_touching.f
  have hm : l.length * l.length ≤ 100000 * 100000 := Nat.mul_le_mul hn1 hn1
  have := touching_B l l.length rfl hn1 hb l.length 0 k [] (by omega) hk (by simp; omega)
  simpa using this)
theorem ciFour_l (l : List S39) (hl : (l.length : Int) ≤ 9223372036854775806) (d : Nat) : ∀ (i : Nat), i + d = l.length → Ev (fun k => spec_ciFour.l0 k l (l.length : Int) (i : Int)) ((l.drop i).all isC) := by
  induction d with
  | zero =>
    intro i hi
    refine Ev.from 0 (fun k hk => ?_)
    obtain ⟨k, rfl⟩ : ∃ m, k = m + 1 := ⟨k - 1, by omega⟩
    simp only [spec_ciFour.l0]
    rw [if_neg (by omega), List.drop_of_length_le (by omega)]
    rfl
  | succ d ih =>
    intro i hi
    have hil : i < l.length := by omega
    have hg := ciGood_ev l[i].f0 l[i].f1 l[i].f2 l[i].f3
    obtain ⟨K, hK⟩ : Ev (fun k => (spec_ciGood.f k l[i].f0 l[i].f1 l[i].f2 l[i].f3).bind fun t => if t = true then spec_ciFour.l0 k l (l.length : Int) ((i + 1 : Nat) : Int) else some false) ((l.drop i).all isC) := by
      refine Ev.bind hg ?_
      rw [List.drop_eq_getElem_cons hil, List.all_cons]
      show Ev _ (isC l[i] && _)
      cases isC l[i] with
      | true => simp only [if_true, Bool.true_and]; exact ih (i + 1) (by omega)
      | false => simp only [Bool.false_eq_true, if_false, Bool.false_and]; exact Ev.now _
    refine Ev.from (K + 1) (fun k hk => ?_)
    obtain ⟨k, rfl⟩ : ∃ m, k = m + 1 := ⟨k - 1, by omega⟩
    simp only [spec_ciFour.l0]
    rw [if_pos (by omega), if_pos (by omega), if_pos (by omega), rdC_at hil, wrap_id (by omega) (by omega), show ((i : Int) + 1) = ((i + 1 : Nat) : Int) by omega]
    exact hK k (by omega)
/-- four circles -/
def fourB (l : List S39) : Bool := decide (l.length = 4) && l.all isC
theorem ciFour_ev (l : List S39) : Ev (fun k => spec_ciFour.f k l) (fourB l) := by
  unfold spec_ciFour.f fourB
  by_cases h : l.length = 4
  · simp only [if_pos (show (l.length : Int) = 4 by omega), decide_eq_true h, Bool.true_and]
    have := ciFour_l l (by omega) l.length 0 (by omega)
    simpa using this
  · simp only [if_neg (show ¬ (l.length : Int) = 4 by omega), decide_eq_false h, Bool.false_and]
    exact Ev.now _
theorem areFour_f (l : List S39) : impl_areFour.f l = some (fourB l) := by
  unfold impl_areFour.f fourB impl_areCircles.f
  by_cases h : l.length = 4
  · rw [if_pos (show (l.length : Int) = 4 by omega), decide_eq_true h]
    rfl
  · rw [if_neg (show ¬ (l.length : Int) = 4 by omega), decide_eq_false h]
    rfl
theorem fourB_iff (l : List S39) : fourB l = true ↔ ∃ a b c d, l = [a, b, c, d] ∧ isC a = true ∧ isC b = true ∧ isC c = true ∧ isC d = true := by
  unfold fourB
  constructor
  · intro h
    simp only [Bool.and_eq_true, decide_eq_true_eq] at h
    match l, h with
    | [a, b, c, d], h => simp at h; exact ⟨a, b, c, d, rfl, h⟩
  · rintro ⟨a, b, c, d, rfl, h0, h1, h2, h3⟩
    simp [h0, h1, h2, h3]
/-- all pairs of four touch -/
def pairs4 (a b c d : S39) : Bool := decide (twi b a = -2) && (decide (twi c a = -2) && (decide (twi c b = -2) && (decide (twi d a = -2) && (decide (twi d b = -2) && decide (twi d c = -2)))))
def cfgB (l : List S39) : Bool := fourB l && match l with
  | [a, b, c, d] => pairs4 a b c d
  | _ => false
theorem to4 (a b c d : S39) : decide ((pairsOf [a, b, c, d] 0).length = 6) = pairs4 a b c d := by
  have e : (pairsOf [a, b, c, d] 0).length = (if twi b a = -2 then 1 else 0) + (if twi c a = -2 then 1 else 0) + (if twi d a = -2 then 1 else 0) + (if twi c b = -2 then 1 else 0) + (if twi d b = -2 then 1 else 0) + (if twi d c = -2 then 1 else 0) := by
    simp only [pairsOf, tl, twi_comm a b, twi_comm a c, twi_comm a d, twi_comm b c, twi_comm b d, twi_comm c d, List.length_append, List.length_nil]
    have h : ∀ (p : Prop) [Decidable p] (x : List Int), (if p then [x] else []).length = if p then 1 else 0 := by
      intro p _ x
      split <;> rfl
    simp only [h]
    omega
  rw [e]
  unfold pairs4
  by_cases h0 : twi b a = -2 <;> by_cases h1 : twi c a = -2 <;> by_cases h2 : twi c b = -2 <;> by_cases h3 : twi d a = -2 <;> by_cases h4 : twi d b = -2 <;> by_cases h5 : twi d c = -2 <;> simp [h0, h1, h2, h3, h4, h5]
theorem isConfig_ev (l : List S39) : Ev (fun k => impl_isConfig.f k l) (cfgB l) := by
  unfold impl_isConfig.f cfgB
  rw [areFour_f]
  simp only [Option.bind_some]
  cases h : fourB l with
  | false =>
    simp only [Bool.false_eq_true, if_false, Bool.false_and]
    exact Ev.now _
  | true =>
    simp only [if_true, Bool.true_and]
    obtain ⟨a, b, c, d, rfl, ha, hb, hc, hd⟩ := (fourB_iff l).1 h
    refine Ev.bind (touching_ev _ (by simp) ?_) ?_
    · intro x hx
      simp at hx
      rcases hx with rfl | rfl | rfl | rfl
      · exact isC_bnd ha
      · exact isC_bnd hb
      · exact isC_bnd hc
      · exact isC_bnd hd
    · refine Ev.all (congrArg some ?_)
      show _ = pairs4 a b c d
      rw [← to4, ← Bool.beq_eq_decide_eq]
      rw [Bool.eq_iff_iff, beq_iff_eq, beq_iff_eq]
      omega
/-- every circle from the i-th on touches all ahead of it -/
def cfr (l : List S39) : Nat → Nat → Bool
  | _, 0 => true
  | i, d + 1 => ((l.take i).all fun y => decide (twi (l.getD i z39) y = -2)) && cfr l (i + 1) d
theorem cc_A (x0 x10 : List S39) (x11 x12 : Int) (c : S39) (hc : bndC c) (ys : List S39) (hy : ∀ y ∈ ys, bndC y) (hl : ys.length ≤ 100000) (d : Nat) : ∀ (i : Nat), i + d = ys.length → ∀ R : Bool,
    (if ((ys.drop i).all fun y => decide (twi c y = -2)) = true then Ev (fun k => spec_ciConfig.l0 k x0 x10 x11 (wrap64 (x12 + 1))) R else R = false) →
    Ev (fun k => spec_ciConfig.l1 k x0 x10 x11 x12 ys (ys.length : Int) (i : Int) c.f0 c.f1 c.f2 c.f3) R := by
  induction d with
  | zero =>
    intro i hi R hR
    rw [List.drop_of_length_le (by omega)] at hR
    simp only [List.all_nil, if_true] at hR
    refine Ev.step (f := fun k => spec_ciConfig.l0 k x0 x10 x11 (wrap64 (x12 + 1))) (fun k => ?_) hR
    simp only [spec_ciConfig.l1]
    rw [if_neg (by omega)]
  | succ d ih =>
    intro i hi R hR
    have hil : i < ys.length := by omega
    rw [List.drop_eq_getElem_cons hil, List.all_cons] at hR
    by_cases ht : twi c ys[i] = -2
    · rw [decide_eq_true ht, Bool.true_and] at hR
      refine Ev.step (f := fun k => spec_ciConfig.l1 k x0 x10 x11 x12 ys (ys.length : Int) ((i + 1 : Nat) : Int) c.f0 c.f1 c.f2 c.f3) (fun k => ?_) (ih (i + 1) (by omega) R hR)
      simp only [spec_ciConfig.l1]
      rw [if_pos (by omega), if_pos (by omega), if_pos (by omega), rdC_at hil, ciTwice_f, twice_f hc (hy _ (List.getElem_mem hil)), wrap_id (by omega) (by omega)]
      simp only [Option.bind_some]
      rw [if_pos ht, show ((i : Int) + 1) = ((i + 1 : Nat) : Int) by omega]
    · rw [decide_eq_false ht, Bool.false_and, if_neg (by decide)] at hR
      subst hR
      refine Ev.step (f := fun _ => some false) (fun k => ?_) (Ev.now _)
      simp only [spec_ciConfig.l1]
      rw [if_pos (by omega), if_pos (by omega), if_pos (by omega), rdC_at hil, ciTwice_f, twice_f hc (hy _ (List.getElem_mem hil))]
      simp only [Option.bind_some]
      rw [if_neg ht]
theorem cc_B (l : List S39) (hb : ∀ y ∈ l, bndC y) (hl : l.length ≤ 100000) (d : Nat) : ∀ (i : Nat), i + d = l.length → Ev (fun k => spec_ciConfig.l0 k l l (l.length : Int) (i : Int)) (cfr l i d) := by
  induction d with
  | zero =>
    intro i hi
    refine Ev.step (f := fun _ => some true) (fun k => ?_) (Ev.now _)
    simp only [spec_ciConfig.l0]
    rw [if_neg (by omega)]
  | succ d ih =>
    intro i hi
    have hil : i < l.length := by omega
    have hr : l.getD i z39 = l[i] := by simp [List.getD_eq_getElem?_getD, List.getElem?_eq_getElem hil]
    have hlen : (l.take i).length = i := by simp; omega
    have h := cc_A l l (l.length : Int) (i : Int) l[i] (hb _ (List.getElem_mem hil)) (l.take i) (fun y hy => hb y (List.mem_of_mem_take hy)) (by omega) (l.take i).length 0 (by omega) (cfr l i (d + 1)) (by
      simp only [List.drop_zero, cfr, hr]
      split
      · rename_i hq
        rw [hq, Bool.true_and, wrap_id (by omega) (by omega), show ((i : Int) + 1) = ((i + 1 : Nat) : Int) by omega]
        exact ih (i + 1) (by omega)
      · rename_i hq
        rw [Bool.eq_false_iff.2 hq, Bool.false_and])
    refine Ev.step (f := fun k => spec_ciConfig.l1 k l l (l.length : Int) (i : Int) (l.take i) ((l.take i).length : Int) ((0 : Nat) : Int) l[i].f0 l[i].f1 l[i].f2 l[i].f3) (fun k => ?_) h
    simp only [spec_ciConfig.l0]
    rw [if_pos (by omega), if_pos (by omega), if_pos (by omega), if_pos (by omega), rdC_at hil]
    simp only [Option.bind_some, Int.toNat_natCast]
    rfl
theorem ciConfig_ev (l : List S39) : Ev (fun k => spec_ciConfig.f k l) (cfgB l) := by
  unfold spec_ciConfig.f cfgB
  refine Ev.bind (ciFour_ev l) ?_
  cases h : fourB l with
  | false =>
    simp only [Bool.false_eq_true, if_false, Bool.false_and]
    exact Ev.now _
  | true =>
    simp only [if_true, Bool.true_and]
    obtain ⟨a, b, c, d, rfl, ha, hb, hc, hd⟩ := (fourB_iff l).1 h
    have hB := cc_B [a, b, c, d] (by
      intro x hx
      simp at hx
      rcases hx with rfl | rfl | rfl | rfl
      · exact isC_bnd ha
      · exact isC_bnd hb
      · exact isC_bnd hc
      · exact isC_bnd hd) (by simp) 4 0 rfl
    have e : cfr [a, b, c, d] 0 4 = pairs4 a b c d := by
      simp [cfr, pairs4, Bool.and_assoc]
    rw [e] at hB
    exact hB
def tk (g : S39 → Int) (l : List S39) (j : Nat) : Int := ((l.take j).map g).sum
theorem tk_succ (g : S39 → Int) (l : List S39) {j : Nat} (h : j < l.length) : tk g l (j + 1) = tk g l j + g l[j] := by
  unfold tk
  rw [List.take_succ_eq_append_getElem h, List.map_append, List.sum_append]
  simp only [List.map_cons, List.map_nil, List.sum_cons, List.sum_nil, Int.add_zero]
theorem tk_b (g : S39 → Int) (l : List S39) (hb : ∀ x ∈ l, bnd (g x)) : ∀ j, j ≤ l.length → -(1000000 * (j : Int)) ≤ tk g l j ∧ tk g l j ≤ 1000000 * (j : Int) := by
  intro j
  induction j with
  | zero => intro _; simp [tk]
  | succ j ih =>
    intro h
    have h1 := ih (by omega)
    have h2 := hb l[j] (List.getElem_mem (show j < l.length by omega))
    unfold bnd at h2
    rw [tk_succ g l (by omega)]
    omega
/-- one number behind a swap -/
def cp (g : S39 → Int) (l : List S39) (i : Nat) : Int := 2 * (tk g l l.length - g (l.getD i z39)) - g (l.getD i z39)
def nc (l : List S39) (i : Nat) : S39 := ⟨cp S39.f0 l i, cp S39.f1 l i, cp S39.f2 l i, cp S39.f3 l i⟩
def swc (l : List S39) (i : Nat) : List S39 := l.set i (nc l i)
/-- the sum of the others so far -/
def os (g : S39 → Int) (l : List S39) (i j : Nat) : Int := tk g l j - (if i < j then g (l.getD i z39) else 0)
theorem gd {l : List S39} {i : Nat} (h : i < l.length) : l.getD i z39 = l[i] := by simp [List.getD_eq_getElem?_getD, List.getElem?_eq_getElem h]
theorem os_self (g : S39 → Int) (l : List S39) {i : Nat} (h : i < l.length) : os g l i (i + 1) = os g l i i := by
  unfold os
  rw [tk_succ g l h, if_pos (by omega), if_neg (by omega), gd h]
  omega
theorem os_other (g : S39 → Int) (l : List S39) {i j : Nat} (h : j < l.length) (hij : j ≠ i) : os g l i (j + 1) = os g l i j + g l[j] := by
  unfold os
  rw [tk_succ g l h]
  by_cases h1 : i < j
  · rw [if_pos h1, if_pos (by omega)]; omega
  · rw [if_neg h1, if_neg (by omega)]; omega
theorem os_b (g : S39 → Int) (l : List S39) (hl : l.length = 4) (hb : ∀ x ∈ l, bnd (g x)) {i : Nat} (hi : i < 4) (j : Nat) (hj : j ≤ 4) : -5000000 ≤ os g l i j ∧ os g l i j ≤ 5000000 := by
  have h1 := tk_b g l hb j (by omega)
  have h2 := hb (l.getD i z39) (by rw [gd (by omega)]; exact List.getElem_mem _)
  unfold bnd at h2
  unfold os
  split <;> omega
theorem ciSwap_l (l : List S39) (hl : l.length = 4) (hb : ∀ x ∈ l, bndC x) {i : Nat} (hi : i < 4) (d : Nat) : ∀ j, j + d = 4 →
    Ev (fun k => spec_ciSwap.l0 k l (i : Int) l l 4 (j : Int) (os S39.f0 l i j) (os S39.f1 l i j) (os S39.f2 l i j) (os S39.f3 l i j)) (swc l i) := by
  have b0 : ∀ x ∈ l, bnd (S39.f0 x) := fun x hx => (hb x hx).1
  have b1 : ∀ x ∈ l, bnd (S39.f1 x) := fun x hx => (hb x hx).2.1
  have b2 : ∀ x ∈ l, bnd (S39.f2 x) := fun x hx => (hb x hx).2.2.1
  have b3 : ∀ x ∈ l, bnd (S39.f3 x) := fun x hx => (hb x hx).2.2.2
  induction d with
  | zero =>
    intro j hj
    obtain rfl : j = 4 := by omega
    refine Ev.step (f := fun _ => some (swc l i)) (fun k => ?_) (Ev.now _)
    have q0 := os_b S39.f0 l hl b0 hi 4 (by omega)
    have q1 := os_b S39.f1 l hl b1 hi 4 (by omega)
    have q2 := os_b S39.f2 l hl b2 hi 4 (by omega)
    have q3 := os_b S39.f3 l hl b3 hi 4 (by omega)
    obtain ⟨c0, c1, c2, c3⟩ := hb (l.getD i z39) (by rw [gd (by omega)]; exact List.getElem_mem _)
    unfold bnd at c0 c1 c2 c3
    have hr : rd_T39 l (i : Int) = l.getD i z39 := by rw [rdC_at (by omega), gd (by omega)]
    simp only [spec_ciSwap.l0, hl]
    rw [if_neg (by omega), if_pos (by omega), if_pos (by omega), if_pos (by omega), hr]
    rw [wrap_id (x := 2 * os S39.f0 l i 4) (by omega) (by omega), wrap_id (x := 2 * os S39.f1 l i 4) (by omega) (by omega), wrap_id (x := 2 * os S39.f2 l i 4) (by omega) (by omega), wrap_id (x := 2 * os S39.f3 l i 4) (by omega) (by omega)]
    rw [wrap_id (x := 2 * os S39.f0 l i 4 - (l.getD i z39).f0) (by omega) (by omega), wrap_id (x := 2 * os S39.f1 l i 4 - (l.getD i z39).f1) (by omega) (by omega), wrap_id (x := 2 * os S39.f2 l i 4 - (l.getD i z39).f2) (by omega) (by omega), wrap_id (x := 2 * os S39.f3 l i 4 - (l.getD i z39).f3) (by omega) (by omega)]
    unfold swc nc cp os
    rw [hl, if_pos hi, if_pos hi, if_pos hi, if_pos hi]
    simp only [Int.toNat_natCast]
  | succ d ih =>
    intro j hj
    have hjl : j < l.length := by omega
    have h := ih (j + 1) (by omega)
    by_cases hij : j = i
    · subst hij
      rw [os_self _ _ hjl, os_self _ _ hjl, os_self _ _ hjl, os_self _ _ hjl] at h
      refine Ev.step (f := fun k => spec_ciSwap.l0 k l (j : Int) l l 4 ((j + 1 : Nat) : Int) (os S39.f0 l j j) (os S39.f1 l j j) (os S39.f2 l j j) (os S39.f3 l j j)) (fun k => ?_) h
      simp only [spec_ciSwap.l0]
      rw [if_pos (by omega), if_pos (by omega), if_pos (by omega), if_pos trivial, wrap_id (by omega) (by omega), show ((j : Int) + 1) = ((j + 1 : Nat) : Int) by omega]
    · have q0 := os_b S39.f0 l hl b0 hi j (by omega)
      have q1 := os_b S39.f1 l hl b1 hi j (by omega)
      have q2 := os_b S39.f2 l hl b2 hi j (by omega)
      have q3 := os_b S39.f3 l hl b3 hi j (by omega)
      obtain ⟨c0, c1, c2, c3⟩ := hb l[j] (List.getElem_mem _)
      unfold bnd at c0 c1 c2 c3
      rw [os_other _ _ hjl hij, os_other _ _ hjl hij, os_other _ _ hjl hij, os_other _ _ hjl hij] at h
      refine Ev.step (f := fun k => spec_ciSwap.l0 k l (i : Int) l l 4 ((j + 1 : Nat) : Int) (os S39.f0 l i j + l[j].f0) (os S39.f1 l i j + l[j].f1) (os S39.f2 l i j + l[j].f2) (os S39.f3 l i j + l[j].f3)) (fun k => ?_) h
      simp only [spec_ciSwap.l0]
      rw [if_pos (by omega), if_pos (by omega), if_pos (by omega), if_neg (by omega), rdC_at hjl, wrap_id (x := (j : Int) + 1) (by omega) (by omega), wrap_id (x := os S39.f0 l i j + l[j].f0) (by omega) (by omega), wrap_id (x := os S39.f1 l i j + l[j].f1) (by omega) (by omega), wrap_id (x := os S39.f2 l i j + l[j].f2) (by omega) (by omega), wrap_id (x := os S39.f3 l i j + l[j].f3) (by omega) (by omega), show ((j : Int) + 1) = ((j + 1 : Nat) : Int) by omega]
theorem ciSwap_ev (l : List S39) (hl : l.length = 4) (hb : ∀ x ∈ l, bndC x) {i : Nat} (hi : i < 4) : Ev (fun k => spec_ciSwap.f k l (i : Int)) (swc l i) := by
  have h := ciSwap_l l hl hb hi 4 0 (by omega)
  have z : ∀ g : S39 → Int, os g l i 0 = 0 := fun g => by unfold os tk; rw [if_neg (by omega)]; simp
  rw [z, z, z, z] at h
  unfold spec_ciSwap.f
  simp only [Option.bind_some, List.length_nil, List.nil_append, hl, if_pos (show 0 + 4 < 4398046511104 by decide)]
  exact h
theorem swapC_l (l : List S39) (hl : l.length = 4) (hb : ∀ x ∈ l, bndC x) {i : Nat} (hi : i < 4) (d : Nat) : ∀ j, j + d = 4 →
    Ev (fun k => impl_swapCircle.l0 k (i : Int) l l 4 (j : Int) (-3 * (l.getD i z39).f0 + 2 * tk S39.f0 l j) (-3 * (l.getD i z39).f1 + 2 * tk S39.f1 l j) (-3 * (l.getD i z39).f2 + 2 * tk S39.f2 l j) (-3 * (l.getD i z39).f3 + 2 * tk S39.f3 l j)) (swc l i, inC (nc l i)) := by
  have b0 : ∀ x ∈ l, bnd (S39.f0 x) := fun x hx => (hb x hx).1
  have b1 : ∀ x ∈ l, bnd (S39.f1 x) := fun x hx => (hb x hx).2.1
  have b2 : ∀ x ∈ l, bnd (S39.f2 x) := fun x hx => (hb x hx).2.2.1
  have b3 : ∀ x ∈ l, bnd (S39.f3 x) := fun x hx => (hb x hx).2.2.2
  obtain ⟨e0, e1, e2, e3⟩ := hb (l.getD i z39) (by rw [gd (by omega)]; exact List.getElem_mem _)
  unfold bnd at e0 e1 e2 e3
  induction d with
  | zero =>
    intro j hj
    obtain rfl : j = 4 := by omega
    refine Ev.step (f := fun _ => some (swc l i, inC (nc l i))) (fun k => ?_) (Ev.now _)
    simp only [impl_swapCircle.l0, hl]
    rw [if_neg (by omega), if_pos (by omega), if_pos (by omega)]
    have e : (⟨-3 * (l.getD i z39).f0 + 2 * tk S39.f0 l 4, -3 * (l.getD i z39).f1 + 2 * tk S39.f1 l 4, -3 * (l.getD i z39).f2 + 2 * tk S39.f2 l 4, -3 * (l.getD i z39).f3 + 2 * tk S39.f3 l 4⟩ : S39) = nc l i := by
      unfold nc cp
      rw [hl]
      congr 1 <;> omega
    have e' : ([-3 * (l.getD i z39).f0 + 2 * tk S39.f0 l 4, -3 * (l.getD i z39).f1 + 2 * tk S39.f1 l 4, -3 * (l.getD i z39).f2 + 2 * tk S39.f2 l 4, -3 * (l.getD i z39).f3 + 2 * tk S39.f3 l 4] : List Int).all (inB (-1000000) 1000000) = inC (nc l i) := by rw [← e]; rfl
    unfold impl_Circle_numbers.f impl_allWithin.f
    simp only [Option.bind_some, Int.toNat_natCast]
    rw [e', e]
    rfl
  | succ d ih =>
    intro j hj
    have hjl : j < l.length := by omega
    have h := ih (j + 1) (by omega)
    have q0 := tk_b S39.f0 l b0 j (by omega)
    have q1 := tk_b S39.f1 l b1 j (by omega)
    have q2 := tk_b S39.f2 l b2 j (by omega)
    have q3 := tk_b S39.f3 l b3 j (by omega)
    obtain ⟨c0, c1, c2, c3⟩ := hb l[j] (List.getElem_mem _)
    unfold bnd at c0 c1 c2 c3
    rw [tk_succ S39.f0 l hjl, tk_succ S39.f1 l hjl, tk_succ S39.f2 l hjl, tk_succ S39.f3 l hjl] at h
    refine Ev.step (f := fun k => impl_swapCircle.l0 k (i : Int) l l 4 ((j + 1 : Nat) : Int) (-3 * (l.getD i z39).f0 + 2 * (tk S39.f0 l j + l[j].f0)) (-3 * (l.getD i z39).f1 + 2 * (tk S39.f1 l j + l[j].f1)) (-3 * (l.getD i z39).f2 + 2 * (tk S39.f2 l j + l[j].f2)) (-3 * (l.getD i z39).f3 + 2 * (tk S39.f3 l j + l[j].f3))) (fun k => ?_) h
    simp only [impl_swapCircle.l0]
    rw [if_pos (by omega), if_pos (by omega), if_pos (by omega), rdC_at hjl, wrap_id (x := (j : Int) + 1) (by omega) (by omega), wrap_id (x := 2 * l[j].f0) (by omega) (by omega), wrap_id (x := 2 * l[j].f1) (by omega) (by omega), wrap_id (x := 2 * l[j].f2) (by omega) (by omega), wrap_id (x := 2 * l[j].f3) (by omega) (by omega)]
    rw [wrap_id (x := -3 * (l.getD i z39).f0 + 2 * tk S39.f0 l j + 2 * l[j].f0) (by omega) (by omega), wrap_id (x := -3 * (l.getD i z39).f1 + 2 * tk S39.f1 l j + 2 * l[j].f1) (by omega) (by omega), wrap_id (x := -3 * (l.getD i z39).f2 + 2 * tk S39.f2 l j + 2 * l[j].f2) (by omega) (by omega), wrap_id (x := -3 * (l.getD i z39).f3 + 2 * tk S39.f3 l j + 2 * l[j].f3) (by omega) (by omega)]
    rw [show -3 * (l.getD i z39).f0 + 2 * tk S39.f0 l j + 2 * l[j].f0 = -3 * (l.getD i z39).f0 + 2 * (tk S39.f0 l j + l[j].f0) by omega, show -3 * (l.getD i z39).f1 + 2 * tk S39.f1 l j + 2 * l[j].f1 = -3 * (l.getD i z39).f1 + 2 * (tk S39.f1 l j + l[j].f1) by omega, show -3 * (l.getD i z39).f2 + 2 * tk S39.f2 l j + 2 * l[j].f2 = -3 * (l.getD i z39).f2 + 2 * (tk S39.f2 l j + l[j].f2) by omega, show -3 * (l.getD i z39).f3 + 2 * tk S39.f3 l j + 2 * l[j].f3 = -3 * (l.getD i z39).f3 + 2 * (tk S39.f3 l j + l[j].f3) by omega, show ((j : Int) + 1) = ((j + 1 : Nat) : Int) by omega]
theorem swapC_ev (l : List S39) (hl : l.length = 4) (hb : ∀ x ∈ l, bndC x) {i : Nat} (hi : i < 4) : Ev (fun k => impl_swapCircle.f k l (i : Int)) (swc l i, inC (nc l i)) := by
  have h := swapC_l l hl hb hi 4 0 (by omega)
  have z : ∀ g : S39 → Int, tk g l 0 = 0 := fun g => by unfold tk; simp
  simp only [z, Int.mul_zero, Int.add_zero] at h
  obtain ⟨e0, e1, e2, e3⟩ := hb (l.getD i z39) (by rw [gd (by omega)]; exact List.getElem_mem _)
  unfold bnd at e0 e1 e2 e3
  have hr : rd_T39 l (i : Int) = l.getD i z39 := by rw [rdC_at (by omega), gd (by omega)]
  unfold impl_swapCircle.f impl_Circle.f
  simp only [hl, if_pos (show (4 : Nat) < 4398046511104 by decide), Option.bind_some, hr]
  simp only [if_pos (show 0 ≤ (i : Int) by omega), if_pos (show (i : Int) < ((4 : Nat) : Int) by omega)]
  rw [wrap_id (x := -3 * (l.getD i z39).f0) (by omega) (by omega), wrap_id (x := -3 * (l.getD i z39).f1) (by omega) (by omega), wrap_id (x := -3 * (l.getD i z39).f2) (by omega) (by omega), wrap_id (x := -3 * (l.getD i z39).f3) (by omega) (by omega)]
  exact h
def qf (x : S39) : Int := x.f2 * x.f2 + x.f3 * x.f3 - x.f0 * x.f1
def mix (x y z w : S39) : S39 := ⟨2 * (y.f0 + z.f0 + w.f0) - x.f0, 2 * (y.f1 + z.f1 + w.f1) - x.f1, 2 * (y.f2 + z.f2 + w.f2) - x.f2, 2 * (y.f3 + z.f3 + w.f3) - x.f3⟩
theorem tw_lin (x y z w u : S39) : twi (mix x y z w) u = 2 * (twi y u + twi z u + twi w u) - twi x u := by
  unfold twi mix
  grind
theorem tw_self (y : S39) : twi y y = 2 * qf y := by
  unfold twi qf
  grind
theorem mix_ok {x y z w : S39} (hx : qf x = 1) (hy : qf y = 1) (hz : qf z = 1) (hw : qf w = 1) (xy : twi x y = -2) (xz : twi x z = -2) (xw : twi x w = -2) (yz : twi y z = -2) (yw : twi y w = -2) (zw : twi z w = -2) :
    qf (mix x y z w) = 1 ∧ twi (mix x y z w) y = -2 ∧ twi (mix x y z w) z = -2 ∧ twi (mix x y z w) w = -2 := by
  have sx := tw_self x
  have sy := tw_self y
  have sz := tw_self z
  have sw := tw_self w
  have sn := tw_self (mix x y z w)
  have ny := tw_lin x y z w y
  have nz := tw_lin x y z w z
  have nw := tw_lin x y z w w
  have nx := tw_lin x y z w x
  have nn := tw_lin x y z w (mix x y z w)
  rw [twi_comm z y, twi_comm w y] at ny
  rw [twi_comm w z] at nz
  rw [twi_comm y x, twi_comm z x, twi_comm w x] at nx
  rw [twi_comm y (mix x y z w), twi_comm z (mix x y z w), twi_comm w (mix x y z w), twi_comm x (mix x y z w)] at nn
  omega
theorem cfgB_iff {l : List S39} : cfgB l = true ↔ ∃ a b c d, l = [a, b, c, d] ∧ (isC a = true ∧ isC b = true ∧ isC c = true ∧ isC d = true) ∧ twi a b = -2 ∧ twi a c = -2 ∧ twi a d = -2 ∧ twi b c = -2 ∧ twi b d = -2 ∧ twi c d = -2 := by
  constructor
  · intro h
    unfold cfgB at h
    simp only [Bool.and_eq_true] at h
    obtain ⟨a, b, c, d, rfl, h4⟩ := (fourB_iff l).1 h.1
    have h2 := h.2
    simp only [pairs4, Bool.and_eq_true, decide_eq_true_eq] at h2
    obtain ⟨p1, p2, p3, p4, p5, p6⟩ := h2
    rw [twi_comm] at p1 p2 p3 p4 p5 p6
    exact ⟨a, b, c, d, rfl, h4, p1, p2, p4, p3, p5, p6⟩
  · rintro ⟨a, b, c, d, rfl, h4, p1, p2, p4, p3, p5, p6⟩
    unfold cfgB
    rw [(fourB_iff _).2 ⟨a, b, c, d, rfl, h4⟩]
    rw [twi_comm] at p1 p2 p3 p4 p5 p6
    simp [pairs4, p1, p2, p3, p4, p5, p6]
theorem isC_q {x : S39} (h : isC x = true) : qf x = 1 := ((isC_iff x).1 h).2
theorem isC_mix {x : S39} (h : qf x = 1) : isC x = inC x := by
  rw [Bool.eq_iff_iff, isC_iff, inC_iff]
  exact ⟨fun q => q.1, fun q => ⟨q, h⟩⟩
theorem tk4 (g : S39 → Int) (a b c d : S39) : tk g [a, b, c, d] 4 = g a + g b + g c + g d := by
  simp [tk]
  omega
theorem nc0 (a b c d : S39) : nc [a, b, c, d] 0 = mix a b c d := by
  unfold nc cp mix
  simp only [List.length_cons, List.length_nil, Nat.zero_add, Nat.reduceAdd, tk4, List.getD_cons_zero, S39.mk.injEq]
  omega
theorem nc1 (a b c d : S39) : nc [a, b, c, d] 1 = mix b a c d := by
  unfold nc cp mix
  simp only [List.length_cons, List.length_nil, Nat.zero_add, Nat.reduceAdd, tk4, List.getD_cons_succ, List.getD_cons_zero, S39.mk.injEq]
  omega
theorem nc2 (a b c d : S39) : nc [a, b, c, d] 2 = mix c a b d := by
  unfold nc cp mix
  simp only [List.length_cons, List.length_nil, Nat.zero_add, Nat.reduceAdd, tk4, List.getD_cons_succ, List.getD_cons_zero, S39.mk.injEq]
  omega
theorem nc3 (a b c d : S39) : nc [a, b, c, d] 3 = mix d a b c := by
  unfold nc cp mix
  simp only [List.length_cons, List.length_nil, Nat.zero_add, Nat.reduceAdd, tk4, List.getD_cons_succ, List.getD_cons_zero, S39.mk.injEq]
  omega
theorem cfg_swc {l : List S39} (h : cfgB l = true) {i : Nat} (hi : i < 4) : isC (nc l i) = inC (nc l i) ∧ (inC (nc l i) = true → cfgB (swc l i) = true) := by
  obtain ⟨a, b, c, d, rfl, ⟨ha, hb, hc, hd⟩, ab, ac, ad, bc, bd, cd⟩ := cfgB_iff.1 h
  have qa := isC_q ha
  have qb := isC_q hb
  have qc := isC_q hc
  have qd := isC_q hd
  unfold swc
  match i, hi with
  | 0, _ =>
    rw [nc0]
    obtain ⟨m0, m1, m2, m3⟩ := mix_ok qa qb qc qd ab ac ad bc bd cd
    exact ⟨isC_mix m0, fun q => cfgB_iff.2 ⟨_, b, c, d, rfl, ⟨(isC_mix m0).trans q, hb, hc, hd⟩, m1, m2, m3, bc, bd, cd⟩⟩
  | 1, _ =>
    rw [nc1]
    obtain ⟨m0, m1, m2, m3⟩ := mix_ok qb qa qc qd (by rw [twi_comm]; exact ab) bc bd ac ad cd
    exact ⟨isC_mix m0, fun q => cfgB_iff.2 ⟨a, _, c, d, rfl, ⟨ha, (isC_mix m0).trans q, hc, hd⟩, by rw [twi_comm]; exact m1, ac, ad, m2, m3, cd⟩⟩
  | 2, _ =>
    rw [nc2]
    obtain ⟨m0, m1, m2, m3⟩ := mix_ok qc qa qb qd (by rw [twi_comm]; exact ac) (by rw [twi_comm]; exact bc) cd ab ad bd
    exact ⟨isC_mix m0, fun q => cfgB_iff.2 ⟨a, b, _, d, rfl, ⟨ha, hb, (isC_mix m0).trans q, hd⟩, ab, by rw [twi_comm]; exact m1, ad, by rw [twi_comm]; exact m2, bd, m3⟩⟩
  | 3, _ =>
    rw [nc3]
    obtain ⟨m0, m1, m2, m3⟩ := mix_ok qd qa qb qc (by rw [twi_comm]; exact ad) (by rw [twi_comm]; exact bd) (by rw [twi_comm]; exact cd) ab ac bc
    exact ⟨isC_mix m0, fun q => cfgB_iff.2 ⟨a, b, c, _, rfl, ⟨ha, hb, hc, (isC_mix m0).trans q⟩, ab, ac, by rw [twi_comm]; exact m1, bc, by rw [twi_comm]; exact m2, by rw [twi_comm]; exact m3⟩⟩
  | (i + 4), h => omega
theorem cfg_len {l : List S39} (h : cfgB l = true) : l.length = 4 := by
  obtain ⟨a, b, c, d, rfl, _⟩ := cfgB_iff.1 h
  rfl
theorem cfg_bnd {l : List S39} (h : cfgB l = true) : ∀ x ∈ l, bndC x := by
  obtain ⟨a, b, c, d, rfl, ⟨ha, hb, hc, hd⟩, _⟩ := cfgB_iff.1 h
  intro x hx
  simp at hx
  rcases hx with rfl | rfl | rfl | rfl
  · exact isC_bnd ha
  · exact isC_bnd hb
  · exact isC_bnd hc
  · exact isC_bnd hd
theorem swc_length (l : List S39) (i : Nat) : (swc l i).length = l.length := by simp [swc]
theorem swc_get {l : List S39} {i : Nat} (h : i < l.length) : rd_T39 (swc l i) (i : Int) = nc l i := by
  rw [rdC_at (by rw [swc_length]; exact h)]
  simp [swc]
theorem curvS_l (l : List S39) (hl : l.length ≤ 100000) (d : Nat) : ∀ (i : Nat) (x : List Int), i + d = l.length → x.length ≤ i → Ev (fun k => spec_ciCurvatures.l0 k x l (l.length : Int) (i : Int)) (x ++ (l.drop i).map S39.f1) := by
  induction d with
  | zero =>
    intro i x hi hx
    rw [List.drop_of_length_le (by omega)]
    refine Ev.step (f := fun _ => some x) (fun k => ?_) (by simp only [List.map_nil, List.append_nil]; exact Ev.now _)
    simp only [spec_ciCurvatures.l0]
    rw [if_neg (by omega)]
  | succ d ih =>
    intro i x hi hx
    have hil : i < l.length := by omega
    rw [List.drop_eq_getElem_cons hil]
    refine Ev.step (f := fun k => spec_ciCurvatures.l0 k (x ++ [l[i].f1]) l (l.length : Int) ((i + 1 : Nat) : Int)) (fun k => ?_) (by
      have := ih (i + 1) (x ++ [l[i].f1]) (by omega) (by simp; omega)
      rw [List.append_assoc] at this
      exact this)
    simp only [spec_ciCurvatures.l0]
    rw [if_pos (by omega), if_pos (by omega), if_pos (by omega), if_pos (by omega), rdC_at hil, wrap_id (by omega) (by omega), show ((i : Int) + 1) = ((i + 1 : Nat) : Int) by omega]
theorem curvI_l (l : List S39) (hl : l.length ≤ 100000) (d : Nat) : ∀ (i : Nat) (x : List Int), i + d = l.length → x.length ≤ i → Ev (fun k => impl_curvatures.l0 k x l (l.length : Int) (i : Int)) (x ++ (l.drop i).map S39.f1) := by
  induction d with
  | zero =>
    intro i x hi hx
    rw [List.drop_of_length_le (by omega)]
    refine Ev.step (f := fun _ => some x) (fun k => ?_) (by simp only [List.map_nil, List.append_nil]; exact Ev.now _)
    simp only [impl_curvatures.l0]
    rw [if_neg (by omega)]
  | succ d ih =>
    intro i x hi hx
    have hil : i < l.length := by omega
    rw [List.drop_eq_getElem_cons hil]
    refine Ev.step (f := fun k => impl_curvatures.l0 k (x ++ [l[i].f1]) l (l.length : Int) ((i + 1 : Nat) : Int)) (fun k => ?_) (by
      have := ih (i + 1) (x ++ [l[i].f1]) (by omega) (by simp; omega)
      rw [List.append_assoc] at this
      exact this)
    simp only [impl_curvatures.l0]
    rw [if_pos (by omega), if_pos (by omega), if_pos (by omega), if_pos (by omega), rdC_at hil, wrap_id (by omega) (by omega), show ((i : Int) + 1) = ((i + 1 : Nat) : Int) by omega]
def bq (x : Int) : Prop := -100000 ≤ x ∧ x ≤ 100000
def form4 (a b c d : Int) : Bool := decide (a + b + c + d > 0) && (2 * (a * a + b * b + c * c + d * d) == (a + b + c + d) * (a + b + c + d))
def quadB (l : List Int) : Bool := (decide (l.length = 4) && l.all (inB (-100000) 100000)) && match l with
  | [a, b, c, d] => form4 a b c d
  | _ => false
theorem four {l : List Int} (h : l.length = 4) : ∃ a b c d, l = [a, b, c, d] := by
  match l, h with
  | [a, b, c, d], _ => exact ⟨a, b, c, d, rfl⟩
theorem quadB_iff {l : List Int} : quadB l = true ↔ ∃ a b c d, l = [a, b, c, d] ∧ bq a ∧ bq b ∧ bq c ∧ bq d ∧ a + b + c + d > 0 ∧ 2 * (a * a + b * b + c * c + d * d) = (a + b + c + d) * (a + b + c + d) := by
  constructor
  · intro h
    simp only [quadB, Bool.and_eq_true, decide_eq_true_eq] at h
    obtain ⟨a, b, c, d, rfl⟩ := four h.1.1
    simp only [List.all_cons, List.all_nil, Bool.and_true, Bool.and_eq_true, inB_iff, form4, decide_eq_true_eq, beq_iff_eq] at h
    exact ⟨a, b, c, d, rfl, h.1.2.1, h.1.2.2.1, h.1.2.2.2.1, h.1.2.2.2.2, h.2.1, h.2.2⟩
  · rintro ⟨a, b, c, d, rfl, h0, h1, h2, h3, h4, h5⟩
    simp only [quadB, Bool.and_eq_true, decide_eq_true_eq, List.all_cons, List.all_nil, Bool.and_true, inB_iff, form4, beq_iff_eq, List.length_cons, List.length_nil]
    exact ⟨⟨trivial, h0, h1, h2, h3⟩, h4, h5⟩
theorem r40 (a b c d : Int) : rd [a, b, c, d] 0 = a := Eq.trans rfl rfl
theorem r41 (a b c d : Int) : rd [a, b, c, d] 1 = b := Eq.trans rfl rfl
theorem r42 (a b c d : Int) : rd [a, b, c, d] 2 = c := Eq.trans rfl rfl
theorem r43 (a b c d : Int) : rd [a, b, c, d] 3 = d := Eq.trans rfl rfl
theorem w01 : wrap64 (0 + 1) = 1 := wrap_id (x := 0 + 1) (by decide) (by decide)
theorem w12 : wrap64 (1 + 1) = 2 := wrap_id (x := 1 + 1) (by decide) (by decide)
theorem w23 : wrap64 (2 + 1) = 3 := wrap_id (x := 2 + 1) (by decide) (by decide)
theorem w34 : wrap64 (3 + 1) = 4 := wrap_id (x := 3 + 1) (by decide) (by decide)
theorem i04 : (0 : Int) < 4 := by decide
theorem i14 : (1 : Int) < 4 := by decide
theorem i24 : (2 : Int) < 4 := by decide
theorem i34 : (3 : Int) < 4 := by decide
theorem i44 : ¬ (4 : Int) < 4 := by decide
theorem i00 : (0 : Int) ≤ 0 := by decide
theorem i01 : (0 : Int) ≤ 1 := by decide
theorem i02 : (0 : Int) ≤ 2 := by decide
theorem i03 : (0 : Int) ≤ 3 := by decide
theorem len4 (a b c d : Int) : (([a, b, c, d] : List Int).length : Int) = 4 := rfl
theorem sums {a b c d : Int} (h0 : bq a) (h1 : bq b) (h2 : bq c) (h3 : bq d) :
    (0 ≤ a * a ∧ a * a ≤ 10000000000) ∧ (0 ≤ b * b ∧ b * b ≤ 10000000000) ∧ (0 ≤ c * c ∧ c * c ≤ 10000000000) ∧ (0 ≤ d * d ∧ d * d ≤ 10000000000) ∧ -160000000000 ≤ (a + b + c + d) * (a + b + c + d) ∧ (a + b + c + d) * (a + b + c + d) ≤ 160000000000 := by
  unfold bq at *
  have nn : ∀ x : Int, 0 ≤ x * x := fun x => by
    rcases Int.le_total 0 x with h | h
    · exact Int.mul_nonneg h h
    · have := Int.mul_nonneg (show 0 ≤ -x by omega) (show 0 ≤ -x by omega); grind
  refine ⟨⟨nn a, (sqb (A := 100000) (B := 100000) (by omega) h0.2 (by omega) h0.2).2⟩, ⟨nn b, (sqb (A := 100000) (B := 100000) (by omega) h1.2 (by omega) h1.2).2⟩, ⟨nn c, (sqb (A := 100000) (B := 100000) (by omega) h2.2 (by omega) h2.2).2⟩, ⟨nn d, (sqb (A := 100000) (B := 100000) (by omega) h3.2 (by omega) h3.2).2⟩, ?_⟩
  exact sqb (A := 400000) (B := 400000) (by omega) (by omega) (by omega) (by omega)
theorem apGood_l {a b c d : Int} (h0 : bq a) (h1 : bq b) (h2 : bq c) (h3 : bq d) (k : Nat) : spec_apGood.l0 (k + 5) 0 0 [a, b, c, d] 4 0 = some (form4 a b c d) := by
  obtain ⟨s0, s1, s2, s3, s4⟩ := sums h0 h1 h2 h3
  unfold bq at h0 h1 h2 h3
  simp only [spec_apGood.l0, len4, r40, r41, r42, r43, w01, w12, w23, w34, if_pos i04, if_pos i14, if_pos i24, if_pos i34, if_neg i44, if_pos i00, if_pos i01, if_pos i02, if_pos i03]
  rw [Int.zero_add, Int.zero_add, wrap_id (x := a) (by omega) (by omega), wrap_id (x := a * a) (by omega) (by omega), wrap_id (x := a * a) (by omega) (by omega), wrap_id (x := b * b) (by omega) (by omega), wrap_id (x := c * c) (by omega) (by omega), wrap_id (x := d * d) (by omega) (by omega), wrap_id (x := a + b) (by omega) (by omega), wrap_id (x := a + b + c) (by omega) (by omega), wrap_id (x := a + b + c + d) (by omega) (by omega), wrap_id (x := a * a + b * b) (by omega) (by omega), wrap_id (x := a * a + b * b + c * c) (by omega) (by omega), wrap_id (x := a * a + b * b + c * c + d * d) (by omega) (by omega), wrap_id (x := 2 * (a * a + b * b + c * c + d * d)) (by omega) (by omega), wrap_id (x := (a + b + c + d) * (a + b + c + d)) (by omega) (by omega)]
  unfold form4
  by_cases h : a + b + c + d > 0
  · rw [if_pos h, decide_eq_true h, Bool.true_and]
  · rw [if_neg h, decide_eq_false h, Bool.false_and]
theorem apGood_ev (l : List Int) (hl : (l.length : Int) ≤ 9223372036854775806) : Ev (fun k => spec_apGood.f k l) (quadB l) := by
  have j0 : ∀ x, Ev (fun k => spec_apGood.j0 k x true) false := fun x => Ev.from 0 (fun k hk => by
    obtain ⟨k, rfl⟩ : ∃ m, k = m + 1 := ⟨k - 1, by omega⟩
    simp [spec_apGood.j0])
  unfold spec_apGood.f quadB
  by_cases h : l.length = 4
  · have ha := l1All_ev (-100000) 100000 l hl
    simp only [if_pos (show (l.length : Int) = 4 by omega), decide_eq_true h, Bool.true_and]
    refine Ev.bind ha ?_
    cases hb : l.all (inB (-100000) 100000) with
    | false => simp only [Bool.not_false, Bool.false_and]; exact j0 l
    | true =>
      obtain ⟨a, b, c, d, rfl⟩ := four h
      simp only [List.all_cons, List.all_nil, Bool.and_true, Bool.and_eq_true, inB_iff] at hb
      simp only [Bool.not_true, Bool.true_and]
      refine Ev.from 10 (fun k hk => ?_)
      obtain ⟨k, rfl⟩ : ∃ m, k = m + 6 := ⟨k - 6, by omega⟩
      simp only [spec_apGood.j0, Bool.false_eq_true, if_false]
      exact apGood_l hb.1 hb.2.1 hb.2.2.1 hb.2.2.2 k
  · simp only [if_neg (show ¬ (l.length : Int) = 4 by omega), decide_eq_false h, Bool.false_and]
    exact j0 l
theorem sumOf_l {a b c d : Int} (h0 : bq a) (h1 : bq b) (h2 : bq c) (h3 : bq d) (k : Nat) : impl_sumOf.f (k + 5) [a, b, c, d] = some (a + b + c + d) := by
  unfold bq at h0 h1 h2 h3
  unfold impl_sumOf.f
  simp only [impl_sumOf.l0, len4, r40, r41, r42, r43, w01, w12, w23, w34, if_pos i04, if_pos i14, if_pos i24, if_pos i34, if_neg i44, if_pos i00, if_pos i01, if_pos i02, if_pos i03]
  rw [Int.zero_add, wrap_id (x := a) (by omega) (by omega), wrap_id (x := a + b) (by omega) (by omega), wrap_id (x := a + b + c) (by omega) (by omega), wrap_id (x := a + b + c + d) (by omega) (by omega)]
theorem dot_l {a b c d : Int} (h0 : bq a) (h1 : bq b) (h2 : bq c) (h3 : bq d) (k : Nat) : impl_dot.f (k + 5) [a, b, c, d] [a, b, c, d] = some (a * a + b * b + c * c + d * d) := by
  obtain ⟨s0, s1, s2, s3, s4⟩ := sums h0 h1 h2 h3
  unfold impl_dot.f
  simp only [impl_dot.l0, len4, r40, r41, r42, r43, w01, w12, w23, w34, if_pos i04, if_pos i14, if_pos i24, if_pos i34, if_neg i44, if_pos i00, if_pos i01, if_pos i02, if_pos i03]
  rw [Int.zero_add, wrap_id (x := a * a) (by omega) (by omega), wrap_id (x := a * a) (by omega) (by omega), wrap_id (x := b * b) (by omega) (by omega), wrap_id (x := c * c) (by omega) (by omega), wrap_id (x := d * d) (by omega) (by omega), wrap_id (x := a * a + b * b) (by omega) (by omega), wrap_id (x := a * a + b * b + c * c) (by omega) (by omega), wrap_id (x := a * a + b * b + c * c + d * d) (by omega) (by omega)]
theorem isQuad_ev (l : List Int) : Ev (fun k => impl_IsQuad.f k l) (quadB l) := by
  have j0 : ∀ x, Ev (fun k => impl_IsQuad.j0 k x true) false := fun x => Ev.from 0 (fun k hk => by
    obtain ⟨k, rfl⟩ : ∃ m, k = m + 1 := ⟨k - 1, by omega⟩
    simp [impl_IsQuad.j0])
  unfold impl_IsQuad.f impl_allWithin.f quadB
  by_cases h : l.length = 4
  · simp only [if_pos (show (l.length : Int) = 4 by omega), decide_eq_true h, Bool.true_and, Option.bind_some]
    cases hb : l.all (inB (-100000) 100000) with
    | false => simp only [Bool.not_false, Bool.false_and]; exact j0 l
    | true =>
      obtain ⟨a, b, c, d, rfl⟩ := four h
      simp only [List.all_cons, List.all_nil, Bool.and_true, Bool.and_eq_true, inB_iff] at hb
      simp only [Bool.not_true, Bool.true_and]
      refine Ev.from 10 (fun k hk => ?_)
      obtain ⟨k, rfl⟩ : ∃ m, k = m + 6 := ⟨k - 6, by omega⟩
      simp only [impl_IsQuad.j0, Bool.false_eq_true, if_false]
      rw [sumOf_l hb.1 hb.2.1 hb.2.2.1 hb.2.2.2 k, dot_l hb.1 hb.2.1 hb.2.2.1 hb.2.2.2 k]
      obtain ⟨s0, s1, s2, s3, s4⟩ := sums hb.1 hb.2.1 hb.2.2.1 hb.2.2.2
      simp only [Option.bind_some]
      rw [wrap_id (x := 2 * (a * a + b * b + c * c + d * d)) (by omega) (by omega), wrap_id (x := (a + b + c + d) * (a + b + c + d)) (by omega) (by omega)]
      unfold form4
      by_cases h : a + b + c + d > 0
      · rw [if_pos h, decide_eq_true h, Bool.true_and]
      · rw [if_neg h, decide_eq_false h, Bool.false_and]
  · simp only [if_neg (show ¬ (l.length : Int) = 4 by omega), decide_eq_false h, Bool.false_and]
    exact j0 l
/-- the quad behind a swap -/
def swl (l : List Int) (i : Nat) : List Int := l.set i (2 * (l.sum - l.getD i 0) - l.getD i 0)
theorem swl_length (l : List Int) (i : Nat) : (swl l i).length = l.length := by simp [swl]
theorem rd_nat (l : List Int) (i : Nat) : rd l (i : Int) = l.getD i 0 := by simp [rd]
theorem bq_get {a b c d : Int} (h0 : bq a) (h1 : bq b) (h2 : bq c) (h3 : bq d) {i : Nat} (hi : i < 4) : bq (([a, b, c, d] : List Int).getD i 0) := by
  match i, hi with
  | 0, _ => exact h0
  | 1, _ => exact h1
  | 2, _ => exact h2
  | 3, _ => exact h3
theorem apSwap_f {l : List Int} (hq : quadB l = true) {i : Nat} (hi : i < 4) : spec_apSwap.f l (i : Int) = some (swl l i) := by
  obtain ⟨a, b, c, d, rfl, h0, h1, h2, h3, h4, h5⟩ := quadB_iff.1 hq
  have hg := bq_get h0 h1 h2 h3 hi
  unfold bq at h0 h1 h2 h3 hg
  unfold spec_apSwap.f spec_l1Own.f spec_apSum.f
  simp only [Option.bind_some, List.length_nil, List.nil_append, len4, r40, r41, r42, r43, if_pos i04, if_pos i14, if_pos i24, if_pos i34]
  rw [if_pos (by simp)]
  simp only [Option.bind_some, len4]
  rw [if_pos (by omega), if_pos (by omega), rd_nat]
  have hs : ([a, b, c, d] : List Int).sum = a + b + c + d := by simp; omega
  unfold swl
  rw [hs]
  generalize ([a, b, c, d] : List Int).getD i 0 = x at *
  rw [wrap_id (x := a + b) (by omega) (by omega), wrap_id (x := a + b + c) (by omega) (by omega), wrap_id (x := a + b + c + d) (by omega) (by omega), wrap_id (x := a + b + c + d - x) (by omega) (by omega), wrap_id (x := 2 * (a + b + c + d - x)) (by omega) (by omega), wrap_id (x := 2 * (a + b + c + d - x) - x) (by omega) (by omega)]
  simp only [if_pos (show (i : Int) < 4 by omega), Int.toNat_natCast]
theorem swapped_ev {l : List Int} (hq : quadB l = true) {i : Nat} (hi : i < 4) : Ev (fun k => impl_swapped.f k l (i : Int)) (swl l i) := by
  obtain ⟨a, b, c, d, rfl, h0, h1, h2, h3, h4, h5⟩ := quadB_iff.1 hq
  have hg := bq_get h0 h1 h2 h3 hi
  have hsum : Ev (fun k => impl_sumOf.f k [a, b, c, d]) (a + b + c + d) := Ev.from 5 (fun k hk => by
    obtain ⟨k, rfl⟩ : ∃ m, k = m + 5 := ⟨k - 5, by omega⟩
    exact sumOf_l h0 h1 h2 h3 k)
  unfold bq at h0 h1 h2 h3 hg
  unfold impl_swapped.f slices_Clone_int_int.f
  simp only [if_pos (show ([a, b, c, d] : List Int).length < 17592186044416 by simp), Option.bind_some, len4]
  refine Ev.bind hsum ?_
  rw [if_pos (by omega), if_pos (by omega), rd_nat]
  have hs : ([a, b, c, d] : List Int).sum = a + b + c + d := by simp; omega
  unfold swl
  rw [hs]
  generalize ([a, b, c, d] : List Int).getD i 0 = x at *
  rw [wrap_id (x := a + b + c + d - x) (by omega) (by omega), wrap_id (x := 2 * (a + b + c + d - x)) (by omega) (by omega), wrap_id (x := 2 * (a + b + c + d - x) - x) (by omega) (by omega)]
  simp only [if_pos (show (i : Int) < 4 by omega), Int.toNat_natCast]
  exact Ev.now _
def argm (l : List Int) : Nat → Nat → Nat → Nat
  | b, _, 0 => b
  | b, i, d + 1 => if l.getD i 0 > l.getD b 0 then argm l i (i + 1) d else argm l b (i + 1) d
theorem argm_spec (l : List Int) (d : Nat) : ∀ b i, (b < i ∨ b = 0 ∧ i = 0) → (∀ j, j < i → l.getD j 0 ≤ l.getD b 0) → (∀ j, j < b → l.getD j 0 < l.getD b 0) →
    (∀ j, j < i + d → l.getD j 0 ≤ l.getD (argm l b i d) 0) ∧ (∀ j, j < argm l b i d → l.getD j 0 < l.getD (argm l b i d) 0) ∧ (argm l b i d < i + d ∨ argm l b i d = b) := by
  induction d with
  | zero =>
    intro b i _ h1 h2
    exact ⟨fun j hj => h1 j (by omega), h2, .inr rfl⟩
  | succ d ih =>
    intro b i hbi h1 h2
    simp only [argm]
    split
    · rename_i hg
      have h1' : ∀ j, j < i + 1 → l.getD j 0 ≤ l.getD i 0 := by
        intro j hj
        rcases Nat.lt_or_ge j i with h | h
        · have := h1 j h; omega
        · have : j = i := by omega
          subst this
          exact Int.le_refl _
      have h2' : ∀ j, j < i → l.getD j 0 < l.getD i 0 := fun j hj => by have := h1 j hj; omega
      obtain ⟨r1, r2, r3⟩ := ih i (i + 1) (.inl (by omega)) h1' h2'
      exact ⟨fun j hj => r1 j (by omega), r2, .inl (by omega)⟩
    · rename_i hg
      have h1' : ∀ j, j < i + 1 → l.getD j 0 ≤ l.getD b 0 := by
        intro j hj
        rcases Nat.lt_or_ge j i with h | h
        · exact h1 j h
        · have : j = i := by omega
          subst this
          omega
      obtain ⟨r1, r2, r3⟩ := ih b (i + 1) (.inl (by omega)) h1' h2
      exact ⟨fun j hj => r1 j (by omega), r2, by omega⟩
theorem argm4 (l : List Int) : (∀ j, j < 4 → l.getD j 0 ≤ l.getD (argm l 0 0 4) 0) ∧ (∀ j, j < argm l 0 0 4 → l.getD j 0 < l.getD (argm l 0 0 4) 0) ∧ argm l 0 0 4 < 4 := by
  obtain ⟨h1, h2, h3⟩ := argm_spec l 4 0 0 (.inr ⟨rfl, rfl⟩) (fun j hj => by omega) (fun j hj => by omega)
  exact ⟨fun j hj => h1 j (by omega), h2, by omega⟩
/-- the number behind a swap -/
def sv (l : List Int) (i : Nat) : Int := 2 * (l.sum - l.getD i 0) - l.getD i 0
theorem swl_get {l : List Int} {i : Nat} (h : i < l.length) : (swl l i).getD i 0 = sv l i := by
  unfold swl sv
  simp [List.getD_eq_getElem?_getD, List.getElem?_set_self h]
theorem quad_len {l : List Int} (hq : quadB l = true) : l.length = 4 := by
  obtain ⟨a, b, c, d, rfl, _⟩ := quadB_iff.1 hq
  rfl
def dres (l : List Int) (m : Nat) : Int := if l.getD m 0 ≤ sv l m then -1 else (m : Int)
/-- where a quad leads down -/
def dwn (l : List Int) : Int := dres l (argm l 0 0 4)
theorem apDown_l {l : List Int} (hq : quadB l = true) (d : Nat) : ∀ (i b : Nat), i + d = 4 → b < 4 → argm l b i d < 4 →
    Ev (fun k => spec_apDown.l0 k l (b : Int) l 4 (i : Int)) (dres l (argm l b i d)) := by
  have h4 := quad_len hq
  induction d with
  | zero =>
    intro i b hi hb _
    refine Ev.step (f := fun _ => some (dres l b)) (fun k => ?_) (Ev.now _)
    simp only [spec_apDown.l0]
    rw [if_neg (by omega), apSwap_f hq hb]
    simp only [Option.bind_some, swl_length, h4]
    rw [if_pos (by omega), if_pos (by omega), if_pos (by omega), rd_nat, rd_nat, swl_get (by omega)]
    unfold dres
    by_cases h : l.getD b 0 ≤ sv l b
    · rw [if_pos h, if_pos h]
    · rw [if_neg h, if_neg h]
  | succ d ih =>
    intro i b hi hb hm
    simp only [argm] at hm ⊢
    by_cases hg : l.getD i 0 > l.getD b 0
    · rw [if_pos hg] at hm ⊢
      refine Ev.step (f := fun k => spec_apDown.l0 k l (i : Int) l 4 ((i + 1 : Nat) : Int)) (fun k => ?_) (ih (i + 1) i (by omega) (by omega) hm)
      simp only [spec_apDown.l0, h4]
      rw [if_pos (by omega), if_pos (by omega), if_pos (by omega), if_pos (by omega), if_pos (by omega), rd_nat, rd_nat, if_pos hg, wrap_id (by omega) (by omega), show ((i : Int) + 1) = ((i + 1 : Nat) : Int) by omega]
    · rw [if_neg hg] at hm ⊢
      refine Ev.step (f := fun k => spec_apDown.l0 k l (b : Int) l 4 ((i + 1 : Nat) : Int)) (fun k => ?_) (ih (i + 1) b (by omega) hb hm)
      simp only [spec_apDown.l0, h4]
      rw [if_pos (by omega), if_pos (by omega), if_pos (by omega), if_pos (by omega), if_pos (by omega), rd_nat, rd_nat, if_neg hg, wrap_id (by omega) (by omega), show ((i : Int) + 1) = ((i + 1 : Nat) : Int) by omega]
theorem apDown_ev {l : List Int} (hq : quadB l = true) : Ev (fun k => spec_apDown.f k l) (dwn l) := by
  have h := apDown_l hq 4 0 0 (by omega) (by omega) (argm4 l).2.2
  unfold spec_apDown.f
  rw [show (l.length : Int) = 4 by have := quad_len hq; omega]
  exact h
def rootB (l : List Int) : Nat → Nat → Bool
  | _, 0 => true
  | i, d + 1 => decide (l.getD i 0 ≤ sv l i) && rootB l (i + 1) d
theorem isRoot_l {l : List Int} (hq : quadB l = true) (d : Nat) : ∀ (i : Nat), i + d = 4 → Ev (fun k => impl_isRoot.l0 k l l 4 (i : Int)) (rootB l i d) := by
  have h4 := quad_len hq
  induction d with
  | zero =>
    intro i hi
    refine Ev.step (f := fun _ => some true) (fun k => ?_) (Ev.now _)
    simp only [impl_isRoot.l0]
    rw [if_neg (by omega)]
  | succ d ih =>
    intro i hi
    have hs := swapped_ev hq (show i < 4 by omega)
    refine Ev.step (f := fun k => (impl_swapped.f k l (i : Int)).bind fun t => (if (i : Int) < (t.length : Int) then (if (rd t (i : Int)) < (rd l (i : Int)) then (some false) else (impl_isRoot.l0 k l l 4 ((i + 1 : Nat) : Int))) else (none))) (fun k => ?_) ?_
    · simp only [impl_isRoot.l0, h4]
      rw [if_pos (by omega), if_pos (by omega), if_pos (by omega), wrap_id (by omega) (by omega), show ((i : Int) + 1) = ((i + 1 : Nat) : Int) by omega]
    · refine Ev.bind hs ?_
      simp only [swl_length, h4, rd_nat, if_pos (show (i : Int) < ((4 : Nat) : Int) by omega)]
      rw [swl_get (by omega)]
      simp only [rootB]
      by_cases h : l.getD i 0 ≤ sv l i
      · simp only [if_neg (show ¬ (sv l i < l.getD i 0) by omega), decide_eq_true h, Bool.true_and]
        exact ih (i + 1) (by omega)
      · simp only [if_pos (show sv l i < l.getD i 0 by omega), decide_eq_false h, Bool.false_and]
        exact Ev.now _
theorem isRoot_ev {l : List Int} (hq : quadB l = true) : Ev (fun k => impl_isRoot.f k l) (rootB l 0 4) := by
  unfold impl_isRoot.f
  rw [show (l.length : Int) = 4 by have := quad_len hq; omega]
  exact isRoot_l hq 4 0 (by omega)
theorem root_iff (l : List Int) : rootB l 0 4 = decide (dwn l < 0) := by
  obtain ⟨h1, h2, h3⟩ := argm4 l
  rw [Bool.eq_iff_iff, decide_eq_true_iff]
  simp only [rootB, Nat.zero_add, Nat.reduceAdd, Bool.and_true, Bool.and_eq_true, decide_eq_true_iff, dwn, dres]
  have a0 := h1 0 (by omega)
  have a1 := h1 1 (by omega)
  have a2 := h1 2 (by omega)
  have a3 := h1 3 (by omega)
  generalize argm l 0 0 4 = m at *
  unfold sv
  generalize l.sum = S at *
  constructor
  · rintro ⟨q0, q1, q2, q3⟩
    rw [if_pos]
    · decide
    · match m, h3 with
      | 0, _ => exact q0
      | 1, _ => exact q1
      | 2, _ => exact q2
      | 3, _ => exact q3
  · intro h
    by_cases hm : l.getD m 0 ≤ 2 * (S - l.getD m 0) - l.getD m 0
    · exact ⟨by omega, by omega, by omega, by omega⟩
    · rw [if_neg hm] at h
      omega
/-- four circles, each of norm one, that touch pairwise; no bound on their numbers -/
def K4 (l : List S39) : Prop := ∃ a b c d, l = [a, b, c, d] ∧ (qf a = 1 ∧ qf b = 1 ∧ qf c = 1 ∧ qf d = 1) ∧ twi a b = -2 ∧ twi a c = -2 ∧ twi a d = -2 ∧ twi b c = -2 ∧ twi b d = -2 ∧ twi c d = -2
theorem K4_len {l : List S39} (h : K4 l) : l.length = 4 := by
  obtain ⟨a, b, c, d, rfl, _⟩ := h
  rfl
theorem K4_swc {l : List S39} (h : K4 l) {i : Nat} (hi : i < 4) : K4 (swc l i) := by
  obtain ⟨a, b, c, d, rfl, ⟨qa, qb, qc, qd⟩, ab, ac, ad, bc, bd, cd⟩ := h
  unfold swc
  match i, hi with
  | 0, _ =>
    rw [nc0]
    obtain ⟨m0, m1, m2, m3⟩ := mix_ok qa qb qc qd ab ac ad bc bd cd
    exact ⟨_, b, c, d, rfl, ⟨m0, qb, qc, qd⟩, m1, m2, m3, bc, bd, cd⟩
  | 1, _ =>
    rw [nc1]
    obtain ⟨m0, m1, m2, m3⟩ := mix_ok qb qa qc qd (by rw [twi_comm]; exact ab) bc bd ac ad cd
    exact ⟨a, _, c, d, rfl, ⟨qa, m0, qc, qd⟩, by rw [twi_comm]; exact m1, ac, ad, m2, m3, cd⟩
  | 2, _ =>
    rw [nc2]
    obtain ⟨m0, m1, m2, m3⟩ := mix_ok qc qa qb qd (by rw [twi_comm]; exact ac) (by rw [twi_comm]; exact bc) cd ab ad bd
    exact ⟨a, b, _, d, rfl, ⟨qa, qb, m0, qd⟩, ab, by rw [twi_comm]; exact m1, ad, by rw [twi_comm]; exact m2, bd, m3⟩
  | 3, _ =>
    rw [nc3]
    obtain ⟨m0, m1, m2, m3⟩ := mix_ok qd qa qb qc (by rw [twi_comm]; exact ad) (by rw [twi_comm]; exact bd) (by rw [twi_comm]; exact cd) ab ac bc
    exact ⟨a, b, c, _, rfl, ⟨qa, qb, qc, m0⟩, ab, ac, by rw [twi_comm]; exact m1, bc, by rw [twi_comm]; exact m2, by rw [twi_comm]; exact m3⟩
  | (i + 4), h => omega
theorem mix_mix (x y z w : S39) : mix (mix x y z w) y z w = x := by
  unfold mix
  cases x
  simp only [S39.mk.injEq]
  omega
theorem swc_swc {l : List S39} (h : l.length = 4) {i : Nat} (hi : i < 4) : swc (swc l i) i = l := by
  match l, h with
  | [a, b, c, d], _ =>
    unfold swc
    match i, hi with
    | 0, _ => rw [nc0]; simp only [List.set_cons_zero]; rw [nc0, mix_mix]
    | 1, _ => rw [nc1]; simp only [List.set_cons_succ, List.set_cons_zero]; rw [nc1, mix_mix]
    | 2, _ => rw [nc2]; simp only [List.set_cons_succ, List.set_cons_zero]; rw [nc2, mix_mix]
    | 3, _ => rw [nc3]; simp only [List.set_cons_succ, List.set_cons_zero]; rw [nc3, mix_mix]
    | (i + 4), h => omega
/-- behind a word of swaps -/
def runW (l : List S39) (w : List Nat) : List S39 := w.foldl swc l
/-- a word without the same letter twice in a row, letters below 4; 'p' says what may not come first -/
def redW : Option Nat → List Nat → Prop
  | _, [] => True
  | p, i :: w => i < 4 ∧ p ≠ some i ∧ redW (some i) w
theorem redW_none {p : Option Nat} {w : List Nat} (h : redW p w) : redW none w := by
  cases w with
  | nil => trivial
  | cons i w => exact ⟨h.1, by simp, h.2.2⟩
theorem redW_app {u v : List Nat} : ∀ {p : Option Nat}, redW p (u ++ v) ↔ redW p u ∧ redW (match u.getLast? with | some i => some i | none => p) v := by
  induction u with
  | nil => intro p; simp [redW]
  | cons i u ih =>
    intro p
    simp only [List.cons_append, redW, ih]
    have e : (match (i :: u).getLast? with | some i => some i | none => p) = (match u.getLast? with | some j => some j | none => some i) := by
      cases u with
      | nil => rfl
      | cons a u => rw [List.getLast?_cons_cons]; cases h : (a :: u).getLast? with
        | none => simp at h
        | some x => rfl
    rw [e]
    constructor
    · rintro ⟨a, b, c, d⟩; exact ⟨⟨a, b, c⟩, d⟩
    · rintro ⟨⟨a, b, c⟩, d⟩; exact ⟨a, b, c, d⟩
theorem redW_rev (w : List Nat) : ∀ {p : Option Nat}, redW p w → redW none w.reverse := by
  induction w with
  | nil => intro p _; trivial
  | cons i w ih =>
    intro p h
    rw [List.reverse_cons, redW_app]
    refine ⟨ih h.2.2, ?_⟩
    refine ⟨h.1, ?_, trivial⟩
    cases w with
    | nil => simp
    | cons j w =>
      have : (j :: w).reverse.getLast? = some j := by simp
      rw [this]
      intro e
      have e2 : j = i := Option.some.inj e
      subst e2
      exact h.2.2.2.1 rfl
theorem runW_K4 (w : List Nat) : ∀ {l : List S39} {p : Option Nat}, K4 l → redW p w → K4 (runW l w) := by
  induction w with
  | nil => intro l p h _; exact h
  | cons i w ih => intro l p h hw; exact ih (K4_swc h hw.1) hw.2.2
theorem runW_back (w : List Nat) : ∀ {l : List S39} {p : Option Nat}, l.length = 4 → redW p w → runW (runW l w) w.reverse = l := by
  induction w with
  | nil => intro l p _ _; rfl
  | cons i w ih =>
    intro l p h hw
    have h4 : (swc l i).length = 4 := by rw [swc_length]; exact h
    have := ih h4 hw.2.2
    unfold runW at this ⊢
    rw [List.foldl_cons, List.reverse_cons, List.foldl_append, this]
    exact swc_swc h hw.1
/-- the circle that a word's last swap brings -/
def circW (l : List S39) (w : List Nat) (i : Nat) : S39 := nc (runW l w) i
/-- how a circle stands to four: no pair of products is above nothing, and the last one's is least -/
def Low (e : S39) (l : List S39) (p : Nat) : Prop := ∃ a b c d, l = [a, b, c, d] ∧
  (twi e a + twi e b ≤ 0 ∧ twi e a + twi e c ≤ 0 ∧ twi e a + twi e d ≤ 0 ∧ twi e b + twi e c ≤ 0 ∧ twi e b + twi e d ≤ 0 ∧ twi e c + twi e d ≤ 0) ∧
  (twi e (l.getD p z39) ≤ -2 ∧ twi e (l.getD p z39) ≤ twi e a ∧ twi e (l.getD p z39) ≤ twi e b ∧ twi e (l.getD p z39) ≤ twi e c ∧ twi e (l.getD p z39) ≤ twi e d)
theorem tw_linr (e x y z w : S39) : twi e (mix x y z w) = 2 * (twi e y + twi e z + twi e w) - twi e x := by
  rw [twi_comm, tw_lin, twi_comm y e, twi_comm z e, twi_comm w e, twi_comm x e]
theorem Low_swc {e : S39} {l : List S39} {p i : Nat} (h : Low e l p) (hp : p < 4) (hi : i < 4) (hne : p ≠ i) : Low e (swc l i) i ∧ twi e (nc l i) ≤ -2 := by
  obtain ⟨a, b, c, d, rfl, ⟨h1, h2, h3, h4, h5, h6⟩, g0, g1, g2, g3, g4⟩ := h
  unfold swc Low
  match i, hi with
  | 0, _ =>
    rw [nc0]
    have e0 := tw_linr e a b c d
    match p, hp with
    | 0, _ => exact absurd rfl hne
    | 1, _ | 2, _ | 3, _ =>
      simp only [List.getD_cons_succ, List.getD_cons_zero] at g0 g1 g2 g3 g4
      refine ⟨⟨_, b, c, d, rfl, ⟨by omega, by omega, by omega, by omega, by omega, by omega⟩, ?_⟩, by omega⟩
      simp only [List.set_cons_zero, List.getD_cons_zero]
      exact ⟨by omega, by omega, by omega, by omega, by omega⟩
    | (p + 4), h => omega
  | 1, _ =>
    rw [nc1]
    have e0 := tw_linr e b a c d
    match p, hp with
    | 1, _ => exact absurd rfl hne
    | 0, _ | 2, _ | 3, _ =>
      simp only [List.getD_cons_succ, List.getD_cons_zero] at g0 g1 g2 g3 g4
      refine ⟨⟨a, _, c, d, rfl, ⟨by omega, by omega, by omega, by omega, by omega, by omega⟩, ?_⟩, by omega⟩
      simp only [List.set_cons_succ, List.set_cons_zero, List.getD_cons_zero, List.getD_cons_succ]
      exact ⟨by omega, by omega, by omega, by omega, by omega⟩
    | (p + 4), h => omega
  | 2, _ =>
    rw [nc2]
    have e0 := tw_linr e c a b d
    match p, hp with
    | 2, _ => exact absurd rfl hne
    | 0, _ | 1, _ | 3, _ =>
      simp only [List.getD_cons_succ, List.getD_cons_zero] at g0 g1 g2 g3 g4
      refine ⟨⟨a, b, _, d, rfl, ⟨by omega, by omega, by omega, by omega, by omega, by omega⟩, ?_⟩, by omega⟩
      simp only [List.set_cons_succ, List.set_cons_zero, List.getD_cons_zero, List.getD_cons_succ]
      exact ⟨by omega, by omega, by omega, by omega, by omega⟩
    | (p + 4), h => omega
  | 3, _ =>
    rw [nc3]
    have e0 := tw_linr e d a b c
    match p, hp with
    | 3, _ => exact absurd rfl hne
    | 0, _ | 1, _ | 2, _ =>
      simp only [List.getD_cons_succ, List.getD_cons_zero] at g0 g1 g2 g3 g4
      refine ⟨⟨a, b, c, _, rfl, ⟨by omega, by omega, by omega, by omega, by omega, by omega⟩, ?_⟩, by omega⟩
      simp only [List.set_cons_succ, List.set_cons_zero, List.getD_cons_zero, List.getD_cons_succ]
      exact ⟨by omega, by omega, by omega, by omega, by omega⟩
    | (p + 4), h => omega
  | (i + 4), h => omega
/-- one of four circles and the first swap -/
theorem Low_first {l : List S39} (h : K4 l) {k i : Nat} (hk : k < 4) (hi : i < 4) : Low (l.getD k z39) (swc l i) i ∧ twi (l.getD k z39) (nc l i) ≤ -2 := by
  obtain ⟨a, b, c, d, rfl, ⟨qa, qb, qc, qd⟩, ab, ac, ad, bc, bd, cd⟩ := h
  have sa := tw_self a
  have sb := tw_self b
  have sc := tw_self c
  have sd := tw_self d
  have ba := twi_comm b a
  have ca := twi_comm c a
  have da := twi_comm d a
  have cb := twi_comm c b
  have db := twi_comm d b
  have dc := twi_comm d c
  unfold swc Low
  match i, hi with
  | 0, _ =>
    rw [nc0]
    match k, hk with
    | 0, _ | 1, _ | 2, _ | 3, _ =>
      simp only [List.getD_cons_succ, List.getD_cons_zero]
      refine ⟨⟨_, b, c, d, rfl, ?_, ?_⟩, ?_⟩
      · rw [tw_linr]; exact ⟨by omega, by omega, by omega, by omega, by omega, by omega⟩
      · simp only [List.set_cons_zero, List.getD_cons_zero]; rw [tw_linr]; exact ⟨by omega, by omega, by omega, by omega, by omega⟩
      · rw [tw_linr]; omega
    | (k + 4), h => omega
  | 1, _ =>
    rw [nc1]
    match k, hk with
    | 0, _ | 1, _ | 2, _ | 3, _ =>
      simp only [List.getD_cons_succ, List.getD_cons_zero]
      refine ⟨⟨a, _, c, d, rfl, ?_, ?_⟩, ?_⟩
      · rw [tw_linr]; exact ⟨by omega, by omega, by omega, by omega, by omega, by omega⟩
      · simp only [List.set_cons_succ, List.set_cons_zero, List.getD_cons_zero, List.getD_cons_succ]; rw [tw_linr]; exact ⟨by omega, by omega, by omega, by omega, by omega⟩
      · rw [tw_linr]; omega
    | (k + 4), h => omega
  | 2, _ =>
    rw [nc2]
    match k, hk with
    | 0, _ | 1, _ | 2, _ | 3, _ =>
      simp only [List.getD_cons_succ, List.getD_cons_zero]
      refine ⟨⟨a, b, _, d, rfl, ?_, ?_⟩, ?_⟩
      · rw [tw_linr]; exact ⟨by omega, by omega, by omega, by omega, by omega, by omega⟩
      · simp only [List.set_cons_succ, List.set_cons_zero, List.getD_cons_zero, List.getD_cons_succ]; rw [tw_linr]; exact ⟨by omega, by omega, by omega, by omega, by omega⟩
      · rw [tw_linr]; omega
    | (k + 4), h => omega
  | 3, _ =>
    rw [nc3]
    match k, hk with
    | 0, _ | 1, _ | 2, _ | 3, _ =>
      simp only [List.getD_cons_succ, List.getD_cons_zero]
      refine ⟨⟨a, b, c, _, rfl, ?_, ?_⟩, ?_⟩
      · rw [tw_linr]; exact ⟨by omega, by omega, by omega, by omega, by omega, by omega⟩
      · simp only [List.set_cons_succ, List.set_cons_zero, List.getD_cons_zero, List.getD_cons_succ]; rw [tw_linr]; exact ⟨by omega, by omega, by omega, by omega, by omega⟩
      · rw [tw_linr]; omega
    | (k + 4), h => omega
  | (i + 4), h => omega
theorem Low_run (w : List Nat) : ∀ {e : S39} {l : List S39} {p i : Nat}, Low e l p → p < 4 → redW (some p) (w ++ [i]) → twi e (circW l w i) ≤ -2 := by
  induction w with
  | nil => intro e l p i h hp hw; exact (Low_swc h hp hw.1 (fun e => hw.2.1 (by rw [e]))).2
  | cons j w ih =>
    intro e l p i h hp hw
    have h1 := (Low_swc h hp hw.1 (fun e => hw.2.1 (by rw [e]))).1
    exact ih h1 hw.1 hw.2.2
/-- one of four circles, and whatever a word of swaps brings -/
theorem far_A {l : List S39} (h : K4 l) {k : Nat} (hk : k < 4) (w : List Nat) (i : Nat) (hw : redW none (w ++ [i])) : twi (l.getD k z39) (circW l w i) ≤ -2 := by
  cases w with
  | nil => exact (Low_first h hk hw.1).2
  | cons j w => exact Low_run w (Low_first h hk hw.1).1 hw.1 hw.2.2
theorem runW_app (l : List S39) (u v : List Nat) : runW l (u ++ v) = runW (runW l u) v := by unfold runW; rw [List.foldl_append]
theorem circ_get {l : List S39} (h : l.length = 4) (w : List Nat) {i : Nat} (hi : i < 4) : (runW l (w ++ [i])).getD i z39 = circW l w i := by
  have h4 : ∀ (w : List Nat) (l : List S39), l.length = 4 → (runW l w).length = 4 := by
    intro w
    induction w with
    | nil => intro l h; exact h
    | cons j w ih => intro l h; exact ih (swc l j) (by rw [swc_length]; exact h)
  rw [runW_app]
  show (swc (runW l w) i).getD i z39 = nc (runW l w) i
  unfold swc
  have := h4 w l h
  simp [List.getD_eq_getElem?_getD, List.getElem?_set_self (show i < (runW l w).length by omega)]
/-- the words part behind a common head, or one goes on where the other ends -/
theorem parts {u v : List Nat} (h : u ≠ v) : (∃ b s, v = u ++ b :: s) ∨ (∃ b s, u = v ++ b :: s) ∨ ∃ p a s b t, a ≠ b ∧ u = p ++ a :: s ∧ v = p ++ b :: t := by
  induction u generalizing v with
  | nil =>
    cases v with
    | nil => exact absurd rfl h
    | cons b s => exact .inl ⟨b, s, rfl⟩
  | cons a u ih =>
    cases v with
    | nil => exact .inr (.inl ⟨a, u, rfl⟩)
    | cons b v =>
      by_cases hab : a = b
      · subst hab
        rcases ih (v := v) (fun e => h (by rw [e])) with ⟨x, s, e⟩ | ⟨x, s, e⟩ | ⟨p, x, s, y, t, hxy, e1, e2⟩
        · exact .inl ⟨x, s, by rw [e]; rfl⟩
        · exact .inr (.inl ⟨x, s, by rw [e]; rfl⟩)
        · exact .inr (.inr ⟨a :: p, x, s, y, t, hxy, by rw [e1]; rfl, by rw [e2]; rfl⟩)
      · exact .inr (.inr ⟨[], a, u, b, v, hab, rfl, rfl⟩)
theorem far_on {l : List S39} (h : K4 l) (u : List Nat) (i : Nat) (hu : redW none (u ++ [i])) (v : List Nat) (j : Nat) (b : Nat) (s : List Nat) (hv : redW none (v ++ [j])) (e : v ++ [j] = (u ++ [i]) ++ b :: s) : twi (circW l u i) (circW l v j) ≤ -2 := by
  have hi : i < 4 := (redW_app.1 hu).2.1
  rw [← circ_get (K4_len h) u hi]
  obtain ⟨t, j', e2⟩ : ∃ t j', b :: s = t ++ [j'] := ⟨_, _, (List.dropLast_concat_getLast (l := b :: s) (by simp)).symm⟩
  rw [e2, ← List.append_assoc] at e
  obtain ⟨e1, e3⟩ := List.append_inj' e rfl
  obtain rfl : j = j' := by simpa using e3
  have hc : circW l v j = circW (runW l (u ++ [i])) t j := by unfold circW; rw [e1, runW_app]
  rw [hc]
  refine far_A (runW_K4 _ h hu) hi t j ?_
  rw [e1, List.append_assoc] at hv
  exact redW_none (redW_app.1 hv).2
theorem far_B {l : List S39} (h : K4 l) {u v : List Nat} {i j : Nat} (hu : redW none (u ++ [i])) (hv : redW none (v ++ [j])) (hne : u ++ [i] ≠ v ++ [j]) : twi (circW l u i) (circW l v j) ≤ -2 := by
  rcases parts hne with ⟨b, s, e⟩ | ⟨b, s, e⟩ | ⟨p, a, s, b, t, hab, e1, e2⟩
  · exact far_on h u i hu v j b s hv e
  · rw [twi_comm]
    exact far_on h v j hv u i b s hu e
  · have hi : i < 4 := (redW_app.1 hu).2.1
    rw [← circ_get (K4_len h) u hi]
    have hu' := hu
    rw [e1, redW_app] at hu'
    have hv' := hv
    rw [e2, redW_app] at hv'
    have hK := runW_K4 p h hu'.1
    have hback : runW (runW l (u ++ [i])) (a :: s).reverse = runW l p := by
      rw [e1, runW_app]
      exact runW_back (a :: s) (K4_len hK) hu'.2
    obtain ⟨t', e3⟩ : ∃ t', b :: t = t' ++ [j] := by
      have e4 : b :: t = (b :: t).dropLast ++ [(b :: t).getLast (by simp)] := (List.dropLast_concat_getLast (l := b :: t) (by simp)).symm
      rw [e4, ← List.append_assoc] at e2
      obtain ⟨_, e5⟩ := List.append_inj' e2 rfl
      have e6 : j = (b :: t).getLast (by simp) := by simpa using e5
      exact ⟨_, by rw [e6]; exact e4⟩
    have e7 : v = p ++ t' := by
      rw [e3, ← List.append_assoc] at e2
      exact (List.append_inj' e2 rfl).1
    have hc : circW l v j = circW (runW l (u ++ [i])) ((a :: s).reverse ++ t') j := by
      unfold circW
      rw [runW_app, hback, e7, runW_app]
    rw [hc]
    refine far_A (runW_K4 _ h hu) hi _ j ?_
    rw [List.append_assoc, ← e3, redW_app]
    refine ⟨redW_rev _ (redW_none hu'.2), ?_⟩
    have hl : (a :: s).reverse.getLast? = some a := by simp
    rw [hl]
    refine ⟨hv'.2.1, ?_, hv'.2.2.2⟩
    intro e
    exact hab (Option.some.inj e)
/-- what has norm one is not equal to what it is far from -/
theorem far_ne {x y : S39} (h : twi x y ≤ -2) (hx : qf x = 1) : x ≠ y := by
  rintro rfl
  have := tw_self x
  omega

def insR (x : Int) : List Int → List Int
  | [] => [x]
  | y :: t => if y ≤ x then y :: insR x t else x :: y :: t
theorem insR_perm (x : Int) : ∀ l, (insR x l).Perm (x :: l)
  | [] => List.Perm.refl _
  | y :: t => by
    simp only [insR]
    split
    · exact ((insR_perm x t).cons y).trans (List.Perm.swap x y t)
    · exact List.Perm.refl _
theorem insR_pw (x : Int) : ∀ l : List Int, l.Pairwise (fun a b => a ≤ b) → (insR x l).Pairwise (fun a b => a ≤ b)
  | [], _ => by simp [insR]
  | y :: t, h => by
    simp only [insR]
    have h0 := List.pairwise_cons.1 h
    split
    · rename_i hxy
      refine List.pairwise_cons.2 ⟨fun b hb => ?_, insR_pw x t h0.2⟩
      rcases List.mem_cons.1 ((insR_perm x t).mem_iff.1 hb) with rfl | hb
      · exact hxy
      · exact h0.1 b hb
    · rename_i hxy
      refine List.pairwise_cons.2 ⟨fun b hb => ?_, h⟩
      rcases List.mem_cons.1 hb with rfl | hb
      · omega
      · have := h0.1 b hb; omega
def foldR (out : List Int) : List Int → List Int
  | [] => out
  | x :: t => foldR (insR x out) t
theorem foldR_perm : ∀ (l out : List Int), (foldR out l).Perm (out ++ l)
  | [], out => by simp [foldR]
  | x :: t, out => by
    simp only [foldR]
    refine (foldR_perm t _).trans (((insR_perm x out).append_right t).trans ?_)
    exact (List.perm_middle (a := x) (l₁ := out) (l₂ := t)).symm
theorem foldR_pw : ∀ (l out : List Int), out.Pairwise (fun a b => a ≤ b) → (foldR out l).Pairwise (fun a b => a ≤ b)
  | [], _, h => h
  | x :: t, out, h => foldR_pw t _ (insR_pw x out h)
theorem insR_len (x : Int) (l : List Int) : (insR x l).length = l.length + 1 := by rw [(insR_perm x l).length_eq]; rfl
theorem apSorted_i (q : List Int) (n i : Int) (x : Int) (rest : List Int) : ∀ (pre : List Int) (r : List Int), pre.length + rest.length ≤ 1000 → 0 ≤ i → i ≤ 1000 →
    Ev (fun k => spec_apSorted.l0 k (pre ++ insR x rest) q n (i + 1)) r → Ev (fun k => spec_apSorted.l1 k (pre ++ rest) x (pre.length : Int) q n i) r := by
  have put : ∀ (pre rest r : List Int), pre.length + rest.length ≤ 1000 → 0 ≤ i → i ≤ 1000 → Ev (fun k => spec_apSorted.l0 k (pre ++ x :: rest) q n (i + 1)) r →
      Ev (fun k => (if ((pre.length : Nat) : Int) ≤ ((pre ++ rest).length : Int) then ((spec_l1Own.f ((pre ++ rest).take ((pre.length : Nat) : Int).toNat)).bind fun t => (if t.length < 17592186044416 then ((some (t ++ [x] : List Int)).bind fun y => ((some ((pre ++ rest).drop ((pre.length : Nat) : Int).toNat : List Int)).bind fun z => (if y.length + z.length < 17592186044416 then (spec_apSorted.l0 k (y ++ z) q n (wrap64 (i + 1))) else (none)))) else (none))) else (none))) r := by
    intro pre rest r hl h0 h1 h
    obtain ⟨K, h⟩ := h
    refine ⟨K, fun k hk => ?_⟩
    have h := h k hk
    dsimp only at h ⊢
    rw [if_pos (by rw [List.length_append]; omega)]
    simp only [Int.toNat_natCast, List.take_left, List.drop_left]
    rw [l1Own_f pre (by omega)]
    simp only [Option.bind_some]
    rw [if_pos (by omega), if_pos (by simp only [List.length_append, List.length_cons, List.length_nil]; omega), wrap_id (by omega) (by omega)]
    simpa using h
  induction rest with
  | nil =>
    intro pre r hl h0 h1 h
    refine Ev.step (f := fun k => (if ((pre.length : Nat) : Int) ≤ ((pre ++ []).length : Int) then ((spec_l1Own.f ((pre ++ []).take ((pre.length : Nat) : Int).toNat)).bind fun t => (if t.length < 17592186044416 then ((some (t ++ [x] : List Int)).bind fun y => ((some ((pre ++ []).drop ((pre.length : Nat) : Int).toNat : List Int)).bind fun z => (if y.length + z.length < 17592186044416 then (spec_apSorted.l0 k (y ++ z) q n (wrap64 (i + 1))) else (none)))) else (none))) else (none))) (fun k => ?_) (put pre [] r hl h0 h1 h)
    simp only [spec_apSorted.l1]
    rw [if_neg (by simp), if_pos (by omega)]
  | cons y t ih =>
    intro pre r hl h0 h1 h
    have hrd : rd (pre ++ y :: t) ((pre.length : Nat) : Int) = y := by simp [rd]
    have hlt : ((pre.length : Nat) : Int) < ((pre ++ y :: t).length : Int) := by simp only [List.length_append, List.length_cons]; omega
    simp only [List.length_cons] at hl
    by_cases hy : y ≤ x
    · refine Ev.step (f := fun k => spec_apSorted.l1 k ((pre ++ [y]) ++ t) x ((pre ++ [y]).length : Int) q n i) (fun k => ?_) (ih (pre ++ [y]) r (by simp; omega) h0 h1 (by simpa [insR, hy] using h))
      simp only [spec_apSorted.l1]
      rw [if_pos hlt, if_pos (by omega), hrd, if_pos hy, wrap_id (by omega) (by omega)]
      simp
    · refine Ev.step (f := fun k => (if ((pre.length : Nat) : Int) ≤ ((pre ++ (y :: t)).length : Int) then ((spec_l1Own.f ((pre ++ (y :: t)).take ((pre.length : Nat) : Int).toNat)).bind fun t_ => (if t_.length < 17592186044416 then ((some (t_ ++ [x] : List Int)).bind fun y_ => ((some ((pre ++ (y :: t)).drop ((pre.length : Nat) : Int).toNat : List Int)).bind fun z => (if y_.length + z.length < 17592186044416 then (spec_apSorted.l0 k (y_ ++ z) q n (wrap64 (i + 1))) else (none)))) else (none))) else (none))) (fun k => ?_) (put pre (y :: t) r (by simp only [List.length_cons]; omega) h0 h1 (by simpa [insR, hy] using h))
      simp only [spec_apSorted.l1]
      rw [if_pos hlt, if_pos (by omega), hrd, if_neg hy]
theorem apSorted_l (rest : List Int) : ∀ (pre out : List Int), pre.length + rest.length ≤ 900 → out.length ≤ pre.length →
    Ev (fun k => spec_apSorted.l0 k out (pre ++ rest) ((pre ++ rest).length : Int) (pre.length : Int)) (foldR out rest) := by
  induction rest with
  | nil =>
    intro pre out hl ho
    refine Ev.step (f := fun _ => some out) (fun k => ?_) (Ev.now _)
    simp only [spec_apSorted.l0]
    rw [if_neg (by simp)]
  | cons x t ih =>
    intro pre out hl ho
    have hrd : rd (pre ++ x :: t) ((pre.length : Nat) : Int) = x := by simp [rd]
    have hlt : ((pre.length : Nat) : Int) < ((pre ++ x :: t).length : Int) := by simp only [List.length_append, List.length_cons]; omega
    simp only [List.length_cons] at hl
    have h2 := ih (pre ++ [x]) (insR x out) (by simp; omega) (by rw [insR_len]; simp; omega)
    have h3 := apSorted_i (pre ++ x :: t) ((pre ++ x :: t).length : Int) (pre.length : Int) x out [] (foldR (insR x out) t) (by simp; omega) (by omega) (by omega) (by simpa using h2)
    refine Ev.step (f := fun k => spec_apSorted.l1 k out x 0 (pre ++ x :: t) ((pre ++ x :: t).length : Int) (pre.length : Int)) (fun k => ?_) (by simpa [foldR] using h3)
    simp only [spec_apSorted.l0]
    rw [if_pos hlt, if_pos (by omega), if_pos hlt, hrd]
theorem cfg_K4 {l : List S39} (h : cfgB l = true) : K4 l := by
  obtain ⟨a, b, c, d, rfl, ⟨ha, hb, hc, hd⟩, ab, ac, ad, bc, bd, cd⟩ := cfgB_iff.1 h
  exact ⟨a, b, c, d, rfl, ⟨isC_q ha, isC_q hb, isC_q hc, isC_q hd⟩, ab, ac, ad, bc, bd, cd⟩
theorem qf_K4 {l : List S39} (h : K4 l) {k : Nat} (hk : k < 4) : qf (l.getD k z39) = 1 := by
  obtain ⟨a, b, c, d, rfl, ⟨qa, qb, qc, qd⟩, _⟩ := h
  match k, hk with
  | 0, _ => exact qa
  | 1, _ => exact qb
  | 2, _ => exact qc
  | 3, _ => exact qd
  | (k + 4), h => omega
theorem nc_get {l : List S39} (h : l.length = 4) {i : Nat} (hi : i < 4) : (swc l i).getD i z39 = nc l i := by
  unfold swc
  simp [List.getD_eq_getElem?_getD, List.getElem?_set_self (show i < l.length by omega)]
def bas (l : List S39) (most : Int) : List S39 := l.filter (fun c => decide (c.f1 ≤ most))
def cw (l : List S39) (w : List Nat) : S39 := nc (runW l w.dropLast) (w.getLastD 0)
def lastI (w : List Nat) : Int := match w.getLast? with
  | none => -1
  | some i => (i : Int)
def qe (l : List S39) (w : List Nat) : S41 := ⟨runW l w, lastI w⟩
def Inv (l : List S39) (most : Int) (x7 : List S39) (x10 : List S41) (a b : Nat) : Prop := ∃ W : List (List Nat), x10 = ([] :: W).map (qe l) ∧ x7 = bas l most ++ W.map (cw l) ∧
  (∀ w ∈ W, w ≠ [] ∧ redW none w ∧ cfgB (runW l w) = true) ∧ ([] :: W).Nodup ∧ (∀ w ∈ W, ∃ p, ([] :: W)[p]? = some w.dropLast ∧ (p < a ∨ p = a ∧ w.getLastD 0 < b))
theorem Inv.weak {l : List S39} {most : Int} {x7 : List S39} {x10 : List S41} {a b a' b' : Nat} (h : Inv l most x7 x10 a b) (hw : ∀ p j, p < a ∨ p = a ∧ j < b → p < a' ∨ p = a' ∧ j < b') : Inv l most x7 x10 a' b' := by
  obtain ⟨W, h1, h2, h3, h4, h5⟩ := h
  exact ⟨W, h1, h2, h3, h4, fun w hwW => by obtain ⟨p, hp, hq⟩ := h5 w hwW; exact ⟨p, hp, hw _ _ hq⟩⟩
theorem Inv.len {l : List S39} {most : Int} {x7 : List S39} {x10 : List S41} {a b : Nat} (h : Inv l most x7 x10 a b) : x10.length ≤ x7.length + 1 := by
  obtain ⟨W, rfl, rfl, _⟩ := h
  simp
theorem drop_last {w : List Nat} (h : w ≠ []) : w.dropLast ++ [w.getLastD 0] = w := by
  have := List.dropLast_concat_getLast h
  rw [List.getLastD_eq_getLast?, List.getLast?_eq_some_getLast h]
  exact this
theorem last_snoc (u : List Nat) (b : Nat) : lastI (u ++ [b]) = (b : Int) := by
  unfold lastI
  simp
theorem lastD_snoc (u : List Nat) (b : Nat) : (u ++ [b]).getLastD 0 = b := by simp
/-- The word that comes next: it is new, and so is its circle. -/
theorem step_new {l : List S39} {most : Int} {x7 : List S39} {x10 : List S41} {a b : Nat} (hl : cfgB l = true) (h : Inv l most x7 x10 a b) (ha : a < x10.length) (hb : b < 4) :
    ∃ u : List Nat, rd_T41 x10 (a : Int) = qe l u ∧ cfgB (runW l u) = true ∧ ((b : Int) ≠ lastI u → nc (runW l u) b ∉ x7 ∧
      ((nc (runW l u) b).f1 ≤ most → cfgB (swc (runW l u) b) = true → Inv l most (x7 ++ [nc (runW l u) b]) (x10 ++ [(⟨swc (runW l u) b, (b : Int)⟩ : S41)]) a (b + 1))) := by
  obtain ⟨W, rfl, rfl, h3, h4, h5⟩ := h
  rw [List.length_map] at ha
  have hu : ([] :: W)[a]? = some (([] :: W)[a]) := List.getElem?_eq_getElem ha
  generalize ([] :: W)[a] = u at hu
  have hmem : u ∈ [] :: W := List.mem_of_getElem? hu
  have hK := cfg_K4 hl
  have hred : redW none u := by
    rcases List.mem_cons.1 hmem with rfl | hm
    · trivial
    · exact (h3 u hm).2.1
  have hcf : cfgB (runW l u) = true := by
    rcases List.mem_cons.1 hmem with rfl | hm
    · exact hl
    · exact (h3 u hm).2.2
  refine ⟨u, ?_, hcf, fun hne => ?_⟩
  · unfold rd_T41
    rw [Int.toNat_natCast, List.getD_eq_getElem?_getD, List.getElem?_map, hu]
    rfl
  · have hv : redW none (u ++ [b]) := by
      rw [redW_app]
      refine ⟨hred, ?_⟩
      unfold lastI at hne
      cases hg : u.getLast? with
      | none => exact ⟨hb, by simp, trivial⟩
      | some i =>
        rw [hg] at hne
        refine ⟨hb, ?_, trivial⟩
        intro e
        have e2 : i = b := Option.some.inj e
        subst e2
        exact hne rfl
    have hnw : u ++ [b] ∉ W := by
      intro hm
      obtain ⟨p, hp, hq⟩ := h5 _ hm
      rw [List.dropLast_concat] at hp
      have hpl : p < ([] :: W).length := (List.getElem?_eq_some_iff.1 hp).1
      have e : p = a := (List.getElem?_inj hpl h4).1 (hp.trans hu.symm)
      rw [lastD_snoc] at hq
      omega
    have hK2 := runW_K4 u hK hred
    have hq1 : qf (nc (runW l u) b) = 1 := by
      have := qf_K4 (K4_swc hK2 hb) hb
      rwa [nc_get (K4_len hK2) hb] at this
    refine ⟨?_, fun hle hcf2 => ?_⟩
    · intro hm
      rcases List.mem_append.1 hm with hm | hm
      · have hml := (List.mem_filter.1 hm).1
        obtain ⟨k, hk, e⟩ := List.getElem_of_mem hml
        have hk4 : k < 4 := by have := K4_len hK; omega
        have hf := far_A hK hk4 u b hv
        have e2 : l.getD k z39 = nc (runW l u) b := by rw [List.getD_eq_getElem?_getD, List.getElem?_eq_getElem hk]; exact e
        rw [e2] at hf
        exact far_ne hf hq1 rfl
      · obtain ⟨w, hw, e⟩ := List.mem_map.1 hm
        obtain ⟨hw0, hw1, _⟩ := h3 w hw
        have hf := far_B hK (u := w.dropLast) (i := w.getLastD 0) (v := u) (j := b) (by rw [drop_last hw0]; exact hw1) hv (by rw [drop_last hw0]; intro e2; rw [e2] at hw; exact hnw hw)
        have e2 : circW l w.dropLast (w.getLastD 0) = nc (runW l u) b := e
        rw [e2] at hf
        exact far_ne hf hq1 rfl
    · have ew : runW l (u ++ [b]) = swc (runW l u) b := by rw [runW_app]; rfl
      refine ⟨W ++ [u ++ [b]], ?_, ?_, ?_, ?_, ?_⟩
      · simp only [List.map_cons, List.map_append, List.map_nil, List.cons_append]
        congr 3
        unfold qe
        rw [ew, last_snoc]
      · rw [List.map_append, ← List.append_assoc]
        congr 1
        simp only [List.map_cons, List.map_nil]
        unfold cw
        rw [List.dropLast_concat, lastD_snoc]
      · intro w hw
        rcases List.mem_append.1 hw with hw | hw
        · exact h3 w hw
        · rw [List.mem_singleton] at hw
          subst hw
          exact ⟨by simp, hv, by rw [ew]; exact hcf2⟩
      · rw [← List.cons_append, List.nodup_append]
        refine ⟨h4, by simp, ?_⟩
        intro x hx y hy e
        rw [List.mem_singleton] at hy
        subst hy
        subst e
        rcases List.mem_cons.1 hx with hx | hx
        · simp at hx
        · exact hnw hx
      · intro w hw
        rcases List.mem_append.1 hw with hw | hw
        · obtain ⟨p, hp, hq⟩ := h5 w hw
          refine ⟨p, ?_, by omega⟩
          rw [← List.cons_append, List.getElem?_append_left (List.getElem?_eq_some_iff.1 hp).1]
          exact hp
        · rw [List.mem_singleton] at hw
          subst hw
          refine ⟨a, ?_, .inr ⟨rfl, by rw [lastD_snoc]; omega⟩⟩
          rw [List.dropLast_concat, ← List.cons_append, List.getElem?_append_left ha]
          exact hu
theorem Ev.iff {α : Type} {c : Prop} [Decidable c] {f : Nat → Option α} {g : Nat → Option α} {r : α} (h : c) (hf : Ev f r) : Ev (fun k => if c then f k else g k) r := by
  simp only [if_pos h]
  exact hf
theorem Ev.els {α : Type} {c : Prop} [Decidable c] {f : Nat → Option α} {g : Nat → Option α} {r : α} (h : ¬ c) (hg : Ev g r) : Ev (fun k => if c then f k else g k) r := by
  simp only [if_neg h]
  exact hg
theorem vis_out {most : Int} {xs : List S39} {c : S39} (h : c.f1 > most) : vis most xs c = (xs, false) := by unfold vis; rw [if_pos h]
theorem vis_new {most : Int} {xs : List S39} {c : S39} (h : ¬ c.f1 > most) (hn : c ∉ xs) : vis most xs c = (xs ++ [c], true) := by unfold vis; rw [if_neg h, if_neg hn]
theorem bfs {l : List S39} {most : Int} (hl : cfgB l = true) : ∀ (m a b : Nat) (x7 : List S39) (x10 : List S41), Inv l most x7 x10 a b → a < x10.length → b ≤ 4 → x7.length ≤ 300 → (302 - a) * 6 + (5 - b) ≤ m →
    ∃ r, Ev (fun k => spec_CirclesUpTo.l2 k most x7 x10 (a : Int) (b : Int)) r ∧ Ev (fun k => impl_CirclesUpTo.l2 k most x7 x10 (a : Int) (b : Int)) r ∧ r.1.length ≤ 300
  | 0, a, b, x7, x10, hI, ha, hb, h7, hm => by have := hI.len; omega
  | m + 1, a, b, x7, x10, hI, ha, hb, h7, hm => by
    have hlen := hI.len
    have wa : wrap64 ((a : Int) + 1) = ((a + 1 : Nat) : Int) := by rw [wrap_id] <;> omega
    have wb : wrap64 ((b : Int) + 1) = ((b + 1 : Nat) : Int) := by rw [wrap_id] <;> omega
    by_cases hb4 : b = 4
    · subst hb4
      have c4 : ¬ (((4 : Nat) : Int) < 4) := by omega
      by_cases hn : a + 1 < x10.length
      · obtain ⟨r, h1, h2, h3⟩ := bfs hl m (a + 1) 0 x7 x10 (hI.weak (fun p j h => by omega)) hn (by omega) h7 (by omega)
        refine ⟨r, ?_, ?_, h3⟩
        · refine Ev.step (fun k => spec_CirclesUpTo.l2.eq_2 _ _ _ _ _ k) (Ev.els c4 ?_)
          rw [wa]
          exact Ev.step (fun k => spec_CirclesUpTo.l1.eq_2 _ _ _ _ k) (Ev.iff (by omega) h1)
        · refine Ev.step (fun k => impl_CirclesUpTo.l2.eq_2 _ _ _ _ _ k) (Ev.els c4 ?_)
          rw [wa]
          exact Ev.step (fun k => impl_CirclesUpTo.l1.eq_2 _ _ _ _ k) (Ev.iff (by omega) h2)
      · refine ⟨(x7, true), ?_, ?_, h7⟩
        · refine Ev.step (fun k => spec_CirclesUpTo.l2.eq_2 _ _ _ _ _ k) (Ev.els c4 ?_)
          rw [wa]
          exact Ev.step (fun k => spec_CirclesUpTo.l1.eq_2 _ _ _ _ k) (Ev.els (by omega) (Ev.now _))
        · refine Ev.step (fun k => impl_CirclesUpTo.l2.eq_2 _ _ _ _ _ k) (Ev.els c4 ?_)
          rw [wa]
          exact Ev.step (fun k => impl_CirclesUpTo.l1.eq_2 _ _ _ _ k) (Ev.els (by omega) (Ev.now _))
    · have hb' : b < 4 := by omega
      obtain ⟨u, hrd, hcf, hnew⟩ := step_new hl hI ha hb'
      have c4 : ((b : Nat) : Int) < 4 := by omega
      have ca : (0 : Int) ≤ (a : Int) := by omega
      have cb : (0 : Int) ≤ (b : Int) := by omega
      have cl : (a : Int) < (x10.length : Int) := by omega
      by_cases hlast : (b : Int) = lastI u
      · obtain ⟨r, h1, h2, h3⟩ := bfs hl m a (b + 1) x7 x10 (hI.weak (fun p j h => by omega)) ha (by omega) h7 (by omega)
        refine ⟨r, ?_, ?_, h3⟩
        · refine Ev.step (fun k => spec_CirclesUpTo.l2.eq_2 _ _ _ _ _ k) (Ev.iff c4 (Ev.iff ca (Ev.iff cl ?_)))
          rw [hrd, wb]
          exact Ev.iff hlast h1
        · refine Ev.step (fun k => impl_CirclesUpTo.l2.eq_2 _ _ _ _ _ k) (Ev.iff c4 (Ev.iff ca (Ev.iff cl ?_)))
          rw [hrd, wb]
          exact Ev.iff hlast h2
      · obtain ⟨hnin, hpush⟩ := hnew hlast
        have h4 := cfg_len hcf
        have hS := ciSwap_ev (runW l u) h4 (cfg_bnd hcf) hb'
        have hM := swapC_ev (runW l u) h4 (cfg_bnd hcf) hb'
        have hlen4 : (b : Int) < ((swc (runW l u) b).length : Int) := by rw [swc_length, h4]; exact c4
        have hget : rd_T39 (swc (runW l u) b) (b : Int) = nc (runW l u) b := swc_get (by omega)
        obtain ⟨hci, hcs⟩ := cfg_swc hcf hb'
        by_cases hgt : (nc (runW l u) b).f1 > most
        · obtain ⟨r, h1, h2, h3⟩ := bfs hl m a (b + 1) x7 x10 (hI.weak (fun p j h => by omega)) ha (by omega) h7 (by omega)
          refine ⟨r, ?_, ?_, h3⟩
          · refine Ev.step (fun k => spec_CirclesUpTo.l2.eq_2 _ _ _ _ _ k) (Ev.iff c4 (Ev.iff ca (Ev.iff cl ?_)))
            rw [hrd, wb]
            refine Ev.els hlast (Ev.bind hS (Ev.iff cb (Ev.iff hlen4 ?_)))
            rw [hget]
            exact Ev.iff hgt h1
          · refine Ev.step (fun k => impl_CirclesUpTo.l2.eq_2 _ _ _ _ _ k) (Ev.iff c4 (Ev.iff ca (Ev.iff cl ?_)))
            rw [hrd, wb]
            refine Ev.els hlast (Ev.bind hM (Ev.iff cb (Ev.iff hlen4 (Ev.iff (by omega) ?_))))
            simp only [hget, vis_out hgt]
            exact Ev.els (by decide) h2
        · cases hin : inC (nc (runW l u) b) with
          | false =>
            rw [hin] at hci
            refine ⟨([], false), ?_, ?_, by simp⟩
            · refine Ev.step (fun k => spec_CirclesUpTo.l2.eq_2 _ _ _ _ _ k) (Ev.iff c4 (Ev.iff ca (Ev.iff cl ?_)))
              rw [hrd, wb]
              refine Ev.els hlast (Ev.bind hS (Ev.iff cb (Ev.iff hlen4 ?_)))
              rw [hget]
              have hg := ciGood_ev (nc (runW l u) b).f0 (nc (runW l u) b).f1 (nc (runW l u) b).f2 (nc (runW l u) b).f3
              rw [show isC ⟨(nc (runW l u) b).f0, (nc (runW l u) b).f1, (nc (runW l u) b).f2, (nc (runW l u) b).f3⟩ = false from hci] at hg
              exact Ev.els hgt (Ev.bind hg (Ev.els (by decide) (Ev.now _)))
            · rw [hin] at hM
              refine Ev.step (fun k => impl_CirclesUpTo.l2.eq_2 _ _ _ _ _ k) (Ev.iff c4 (Ev.iff ca (Ev.iff cl ?_)))
              rw [hrd, wb]
              refine Ev.els hlast (Ev.bind hM (Ev.iff cb (Ev.iff hlen4 (Ev.iff (by omega) ?_))))
              simp only [hget, vis_new hgt hnin]
              exact Ev.iff (by first | trivial | rfl) (Ev.els (by decide) (Ev.now _))
          | true =>
            rw [hin] at hci hM
            have hg := ciGood_ev (nc (runW l u) b).f0 (nc (runW l u) b).f1 (nc (runW l u) b).f2 (nc (runW l u) b).f3
            rw [show isC ⟨(nc (runW l u) b).f0, (nc (runW l u) b).f1, (nc (runW l u) b).f2, (nc (runW l u) b).f3⟩ = true from hci] at hg
            by_cases h300 : x7.length = 300
            · refine ⟨([], false), ?_, ?_, by simp⟩
              · refine Ev.step (fun k => spec_CirclesUpTo.l2.eq_2 _ _ _ _ _ k) (Ev.iff c4 (Ev.iff ca (Ev.iff cl ?_)))
                rw [hrd, wb]
                refine Ev.els hlast (Ev.bind hS (Ev.iff cb (Ev.iff hlen4 ?_)))
                rw [hget]
                exact Ev.els hgt (Ev.bind hg (Ev.iff rfl (Ev.iff (by omega) (Ev.now _))))
              · refine Ev.step (fun k => impl_CirclesUpTo.l2.eq_2 _ _ _ _ _ k) (Ev.iff c4 (Ev.iff ca (Ev.iff cl ?_)))
                rw [hrd, wb]
                refine Ev.els hlast (Ev.bind hM (Ev.iff cb (Ev.iff hlen4 (Ev.iff (by omega) ?_))))
                simp only [hget, vis_new hgt hnin]
                exact Ev.iff (by first | trivial | rfl) (Ev.iff (by first | trivial | rfl) (Ev.iff (by simp only [List.length_append, List.length_cons, List.length_nil]; omega) (Ev.now _)))
            · obtain ⟨r, h1, h2, h3⟩ := bfs hl m a (b + 1) _ _ (hpush (by omega) (hcs hin)) (by simp; omega) (by omega) (by simp; omega) (by omega)
              refine ⟨r, ?_, ?_, h3⟩
              · refine Ev.step (fun k => spec_CirclesUpTo.l2.eq_2 _ _ _ _ _ k) (Ev.iff c4 (Ev.iff ca (Ev.iff cl ?_)))
                rw [hrd, wb]
                refine Ev.els hlast (Ev.bind hS (Ev.iff cb (Ev.iff hlen4 ?_)))
                rw [hget]
                exact Ev.els hgt (Ev.bind hg (Ev.iff rfl (Ev.els (by omega) (Ev.iff (by omega) (Ev.iff (by omega) h1)))))
              · refine Ev.step (fun k => impl_CirclesUpTo.l2.eq_2 _ _ _ _ _ k) (Ev.iff c4 (Ev.iff ca (Ev.iff cl ?_)))
                rw [hrd, wb]
                refine Ev.els hlast (Ev.bind hM (Ev.iff cb (Ev.iff hlen4 (Ev.iff (by omega) ?_))))
                simp only [hget, vis_new hgt hnin]
                exact Ev.iff (by first | trivial | rfl) (Ev.iff (by first | trivial | rfl) (Ev.els (by simp only [List.length_append, List.length_cons, List.length_nil]; omega) (Ev.iff (by omega) h2)))

theorem init_I {l : List S39} {most : Int} (hn : l.Nodup) (hl : l.length ≤ 100) (r : List S39 × Bool) (h : Ev (fun k => impl_CirclesUpTo.l1 k most (bas l most) [(⟨l, (-1)⟩ : S41)] 0) r) : ∀ (d i : Nat), i + d = l.length → Ev (fun k => impl_CirclesUpTo.l0 k l most (bas (l.take i) most) (i : Int)) r
  | 0, i, hi => by
    refine Ev.step (fun k => impl_CirclesUpTo.l0.eq_2 _ _ _ _ k) (Ev.els (by omega) ?_)
    rw [List.take_of_length_le (by omega)]
    exact h
  | d + 1, i, hi => by
    have hil : i < l.length := by omega
    have wb : wrap64 ((i : Int) + 1) = ((i + 1 : Nat) : Int) := by rw [wrap_id] <;> omega
    have ih := init_I hn hl r h d (i + 1) (by omega)
    have hlen : (bas (l.take i) most).length ≤ 100 := by
      unfold bas
      have h1 := List.length_filter_le (fun c : S39 => decide (c.f1 ≤ most)) (l.take i)
      rw [List.length_take] at h1
      omega
    refine Ev.step (fun k => impl_CirclesUpTo.l0.eq_2 _ _ _ _ k) (Ev.iff (by omega) (Ev.iff (by omega) ?_))
    rw [wb, rdC_at hil]
    have et : l.take (i + 1) = l.take i ++ [l[i]] := by rw [List.take_succ_eq_append_getElem hil]
    have hnot : l[i] ∉ l.take i := by
      intro hm
      obtain ⟨j, hj, e⟩ := List.getElem_of_mem hm
      rw [List.length_take] at hj
      rw [List.getElem_take] at e
      have e2 : l[j]? = l[i]? := by rw [List.getElem?_eq_getElem (by omega), List.getElem?_eq_getElem hil, e]
      have := (List.getElem?_inj (by omega) hn).1 e2
      omega
    by_cases hgt : l[i].f1 > most
    · rw [vis_out hgt]
      have e : bas (l.take (i + 1)) most = bas (l.take i) most := by
        rw [et]
        unfold bas
        rw [List.filter_append]
        simp [show ¬ l[i].f1 ≤ most by omega]
      rw [e] at ih
      exact ih
    · rw [vis_new (xs := bas (l.take i) most) hgt (fun hm => hnot (List.mem_filter.1 hm).1)]
      have e : bas (l.take (i + 1)) most = bas (l.take i) most ++ [l[i]] := by
        rw [et]
        unfold bas
        rw [List.filter_append]
        simp [show l[i].f1 ≤ most by omega]
      rw [e] at ih
      exact ih
theorem init_S {l : List S39} {most : Int} (hl : l.length ≤ 100) (r : List S39 × Bool) (h : Ev (fun k => spec_CirclesUpTo.l1 k most (bas l most) [(⟨l, (-1)⟩ : S41)] 0) r) : ∀ (d i : Nat), i + d = l.length → Ev (fun k => spec_CirclesUpTo.l0 k l most (bas (l.take i) most) l (l.length : Int) (i : Int)) r
  | 0, i, hi => by
    refine Ev.step (fun k => spec_CirclesUpTo.l0.eq_2 _ _ _ _ _ _ k) (Ev.els (by omega) ?_)
    rw [List.take_of_length_le (by omega)]
    exact h
  | d + 1, i, hi => by
    have hil : i < l.length := by omega
    have wb : wrap64 ((i : Int) + 1) = ((i + 1 : Nat) : Int) := by rw [wrap_id] <;> omega
    have ih := init_S hl r h d (i + 1) (by omega)
    have hlen : (bas (l.take i) most).length ≤ 100 := by
      unfold bas
      have h1 := List.length_filter_le (fun c : S39 => decide (c.f1 ≤ most)) (l.take i)
      rw [List.length_take] at h1
      omega
    refine Ev.step (fun k => spec_CirclesUpTo.l0.eq_2 _ _ _ _ _ _ k) (Ev.iff (by omega) (Ev.iff (by omega) (Ev.iff (by omega) ?_)))
    rw [wb, rdC_at hil]
    have et : l.take (i + 1) = l.take i ++ [l[i]] := by rw [List.take_succ_eq_append_getElem hil]
    by_cases hgt : l[i].f1 ≤ most
    · have e : bas (l.take (i + 1)) most = bas (l.take i) most ++ [l[i]] := by
        rw [et]
        unfold bas
        rw [List.filter_append]
        simp [hgt]
      rw [e] at ih
      exact Ev.iff hgt (Ev.iff (by omega) ih)
    · have e : bas (l.take (i + 1)) most = bas (l.take i) most := by
        rw [et]
        unfold bas
        rw [List.filter_append]
        simp [hgt]
      rw [e] at ih
      exact Ev.els hgt ih
theorem cfg_nodup {l : List S39} (h : cfgB l = true) : l.Nodup := by
  obtain ⟨a, b, c, d, rfl, ⟨qa, qb, qc, qd⟩, ab, ac, ad, bc, bd, cd⟩ := cfg_K4 h
  have n1 := far_ne (show twi a b ≤ -2 by omega) qa
  have n2 := far_ne (show twi a c ≤ -2 by omega) qa
  have n3 := far_ne (show twi a d ≤ -2 by omega) qa
  have n4 := far_ne (show twi b c ≤ -2 by omega) qb
  have n5 := far_ne (show twi b d ≤ -2 by omega) qb
  have n6 := far_ne (show twi c d ≤ -2 by omega) qc
  simp [n1, n2, n3, n4, n5, n6]
theorem search {l : List S39} {most : Int} (hl : cfgB l = true) : ∃ r, Ev (fun k => spec_CirclesUpTo.l0 k l most [] l (l.length : Int) 0) r ∧ Ev (fun k => impl_CirclesUpTo.l0 k l most [] 0) r ∧ r.1.length ≤ 300 := by
  have h4 := cfg_len hl
  have hb : (bas l most).length ≤ 4 := by
    unfold bas
    have := List.length_filter_le (fun c : S39 => decide (c.f1 ≤ most)) l
    omega
  have hI : Inv l most (bas l most) [(⟨l, (-1)⟩ : S41)] 0 0 := ⟨[], rfl, by simp, by simp, by simp, by simp⟩
  obtain ⟨r, h1, h2, h3⟩ := bfs hl _ 0 0 _ _ hI (by simp) (by omega) (by omega) (Nat.le_refl _)
  refine ⟨r, ?_, ?_, h3⟩
  · have := init_S (l := l) (most := most) (by omega) r (Ev.step (fun k => spec_CirclesUpTo.l1.eq_2 _ _ _ _ k) (Ev.iff (by simp) h1)) 4 0 (by omega)
    simpa [bas] using this
  · have := init_I (l := l) (most := most) (cfg_nodup hl) (by omega) r (Ev.step (fun k => impl_CirclesUpTo.l1.eq_2 _ _ _ _ k) (Ev.iff (by simp) h2)) 4 0 (by omega)
    simpa [bas] using this
theorem within_in (x lo hi : Int) : impl_within.f x lo hi = some (inB lo hi x) := l1In_f x lo hi
theorem sort_ev (l : List Int) (hl : l.length ≤ 900) : Ev (fun k => spec_apSorted.f k l) (foldR [] l) := by
  have := apSorted_l l [] [] (by simpa using hl) (Nat.le_refl _)
  simpa [spec_apSorted.f] using this
theorem low_same {q : List Int} (h4 : q.length = 4) : ∃ m, slices_Min_int_int.f q = some m ∧ 0 < ((foldR [] q).length : Int) ∧ decide (rd (foldR [] q) 0 ≥ 0) = decide (m ≥ 0) := by
  obtain ⟨a, b, c, d, rfl⟩ := four h4
  refine ⟨_, rfl, ?_, ?_⟩
  · have := (foldR_perm [a, b, c, d] []).length_eq
    simp only [List.nil_append, List.length_cons, List.length_nil] at this
    omega
  · have hp := foldR_perm [a, b, c, d] []
    have hs := foldR_pw [a, b, c, d] [] List.Pairwise.nil
    rw [List.nil_append] at hp
    cases hf : foldR [] [a, b, c, d] with
    | nil => rw [hf] at hp; have := hp.length_eq; simp at this
    | cons x t =>
      rw [hf] at hp hs
      have e : rd (x :: t) 0 = x := rfl
      rw [e]
      have hx : x ∈ [a, b, c, d] := hp.mem_iff.1 (List.mem_cons_self)
      have hall : ∀ y ∈ [a, b, c, d], x ≤ y := by
        intro y hy
        rcases List.mem_cons.1 (hp.mem_iff.2 hy) with rfl | hy
        · exact Int.le_refl _
        · exact (List.pairwise_cons.1 hs).1 y hy
      have ha := hall a (by simp)
      have hb := hall b (by simp)
      have hc := hall c (by simp)
      have hd := hall d (by simp)
      simp only [List.mem_cons, List.not_mem_nil, or_false] at hx
      show decide (x ≥ 0) = decide (min (min (min a b) c) d ≥ 0)
      rw [decide_eq_decide, ge_iff_le, ge_iff_le, Int.le_min, Int.le_min, Int.le_min]
      omega
theorem up_both (l : List S39) (most : Int) (hl : l.length ≤ 1048576) : ∃ r, Ev (fun k => spec_CirclesUpTo.f k l most) r ∧ Ev (fun k => impl_CirclesUpTo.f k l most) r ∧ r.1.length ≤ 300 := by
  have hS0 := ciConfig_ev l
  have hI0 := isConfig_ev l
  cases hc : cfgB l with
  | false =>
    rw [hc] at hS0 hI0
    refine ⟨([], false), ?_, ?_, by simp⟩
    · unfold spec_CirclesUpTo.f
      exact Ev.bind hS0 (Ev.els (by decide) (Ev.step (fun k => spec_CirclesUpTo.j0.eq_2 _ _ _ k) (Ev.iff rfl (Ev.now _))))
    · unfold impl_CirclesUpTo.f
      exact Ev.bind hI0 (Ev.els (by decide) (Ev.now _))
  | true =>
    rw [hc] at hS0 hI0
    have h4 := cfg_len hc
    cases hw : inB 1 60 most with
    | false =>
      refine ⟨([], false), ?_, ?_, by simp⟩
      · unfold spec_CirclesUpTo.f
        rw [l1In_f, hw]
        exact Ev.bind hS0 (Ev.iff rfl (Ev.bind (Ev.now _) (Ev.step (fun k => spec_CirclesUpTo.j0.eq_2 _ _ _ k) (Ev.iff rfl (Ev.now _)))))
      · unfold impl_CirclesUpTo.f
        rw [within_in, hw]
        exact Ev.bind hI0 (Ev.iff rfl (Ev.bind (Ev.now _) (Ev.els (by decide) (Ev.now _))))
    | true =>
      have hqS : Ev (fun k => spec_ciCurvatures.f k l) (l.map S39.f1) := by
        have := curvS_l l (by omega) l.length 0 [] (by omega) (by simp)
        simpa [spec_ciCurvatures.f] using this
      have hqI : Ev (fun k => impl_curvatures.f k l) (l.map S39.f1) := by
        have := curvI_l l (by omega) l.length 0 [] (by omega) (by simp)
        simpa [impl_curvatures.f] using this
      have hq4 : (l.map S39.f1).length = 4 := by simpa using h4
      generalize l.map S39.f1 = q at hqS hqI hq4
      have hgS := apGood_ev q (by omega)
      have hgI := isQuad_ev q
      have goS : ∀ r : List S39 × Bool, Ev (fun k => spec_CirclesUpTo.j0 k l most false) r → Ev (fun k => spec_CirclesUpTo.f k l most) r := by
        intro r h
        unfold spec_CirclesUpTo.f
        rw [l1In_f, hw]
        exact Ev.bind hS0 (Ev.iff rfl (Ev.bind (Ev.now _) h))
      have hrej : Ev (fun k => spec_CirclesUpTo.j1 k l most true) ([], false) := Ev.step (fun k => spec_CirclesUpTo.j1.eq_2 _ _ _ k) (Ev.iff rfl (Ev.now _))
      cases hq : quadB q with
      | false =>
        rw [hq] at hgS hgI
        refine ⟨([], false), goS _ (Ev.step (fun k => spec_CirclesUpTo.j0.eq_2 _ _ _ k) (Ev.els (by decide) (Ev.bind hqS (Ev.bind hgS (Ev.els (by decide) hrej))))), ?_, by simp⟩
        unfold impl_CirclesUpTo.f
        rw [within_in, hw]
        exact Ev.bind hI0 (Ev.iff rfl (Ev.bind (Ev.now _) (Ev.iff rfl (Ev.bind hqI (Ev.bind hgI (Ev.els (by decide) (Ev.now _)))))))
      | true =>
        rw [hq] at hgS hgI
        have hdS := apDown_ev hq
        have hrI := isRoot_ev hq
        rw [root_iff] at hrI
        by_cases hd : dwn q < 0
        · rw [decide_eq_true hd] at hrI
          obtain ⟨m, hm, hpos, hsame⟩ := low_same hq4
          have hsS := sort_ev q (by omega)
          cases hmn : decide (m ≥ 0) with
          | true =>
            rw [hmn] at hsame
            refine ⟨([], false), goS _ (Ev.step (fun k => spec_CirclesUpTo.j0.eq_2 _ _ _ k) (Ev.els (by decide) (Ev.bind hqS (Ev.bind hgS (Ev.iff rfl (Ev.bind hdS (Ev.els (by omega) (Ev.bind hsS (Ev.iff hpos ?_))))))))), ?_, by simp⟩
            · rw [hsame]
              exact hrej
            · unfold impl_CirclesUpTo.f
              rw [within_in, hw]
              refine Ev.bind hI0 (Ev.iff rfl (Ev.bind (Ev.now _) (Ev.iff rfl (Ev.bind hqI (Ev.bind hgI (Ev.iff rfl (Ev.bind hrI (Ev.iff rfl ?_))))))))
              rw [hm]
              exact Ev.bind (Ev.now _) (Ev.iff (of_decide_eq_true hmn) (Ev.now _))
          | false =>
            rw [hmn] at hsame
            obtain ⟨r, h1, h2, h3⟩ := search (most := most) hc
            refine ⟨r, goS _ (Ev.step (fun k => spec_CirclesUpTo.j0.eq_2 _ _ _ k) (Ev.els (by decide) (Ev.bind hqS (Ev.bind hgS (Ev.iff rfl (Ev.bind hdS (Ev.els (by omega) (Ev.bind hsS (Ev.iff hpos ?_))))))))), ?_, h3⟩
            · rw [hsame]
              exact Ev.step (fun k => spec_CirclesUpTo.j1.eq_2 _ _ _ k) (Ev.els (by decide) h1)
            · unfold impl_CirclesUpTo.f
              rw [within_in, hw]
              refine Ev.bind hI0 (Ev.iff rfl (Ev.bind (Ev.now _) (Ev.iff rfl (Ev.bind hqI (Ev.bind hgI (Ev.iff rfl (Ev.bind hrI (Ev.iff rfl ?_))))))))
              rw [hm]
              exact Ev.bind (Ev.now _) (Ev.els (of_decide_eq_false hmn) h2)
        · rw [decide_eq_false hd] at hrI
          refine ⟨([], false), goS _ (Ev.step (fun k => spec_CirclesUpTo.j0.eq_2 _ _ _ k) (Ev.els (by decide) (Ev.bind hqS (Ev.bind hgS (Ev.iff rfl (Ev.bind hdS (Ev.iff (by omega) hrej))))))), ?_, by simp⟩
          unfold impl_CirclesUpTo.f
          rw [within_in, hw]
          exact Ev.bind hI0 (Ev.iff rfl (Ev.bind (Ev.now _) (Ev.iff rfl (Ev.bind hqI (Ev.bind hgI (Ev.iff rfl (Ev.bind hrI (Ev.els (by decide) (Ev.now _)))))))))

end Go.Proofs.Ytdjfcddmbhfpnaa.P
