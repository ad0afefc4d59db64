import Derived.Test.YtjnpopipdnaaiaaP0
import Derived.Test.YtjnpopipdnaaiaaP1
import Derived.Test.YtjnpopipdnaaiaaP2
import Derived.Test.YtjnpopipdnaaiaaP3
import Derived.Test.YtjnpopipdnaaiaaP7
import Derived.Test.YtjnpopipdnaaiaaP9
import Derived.Test.YtjnpopipdnaaiaaP10
import Derived.Test.YtjnpopipdnaaiaaP18
import Derived.Test.YtjnpopipdnaaiaaP20
import Derived.Test.YtjnpopipdnaaiaaP21
namespace Go.Proofs.Ytjnpopipdnaaiaa.P
open Go.RowKit Go.Proofs.YtjnpopipdnaaiaaW.PrintWords Go.Proofs.YtjnpopipdnaaiaaW.PrintLast Go.Proofs.YtjnpopipdnaaiaaW.PrintMore
theorem wrap_id {x : Int} (h0 : -9223372036854775808 ≤ x) (h1 : x ≤ 9223372036854775807) : wrap64 x = x := by unfold wrap64; omega
theorem rdi_at {l : List Int} {i : Nat} (h : i < l.length) : rd l (i : Int) = l[i] := by simp [rd, List.getD_eq_getElem?_getD, List.getElem?_eq_getElem h]
theorem l1In_f (x lo hi : Int) : spec_l1In.f x lo hi = some (inB lo hi x) := by
  unfold spec_l1In.f inB
  by_cases h : x ≥ lo
  · rw [if_pos h]; simp [show lo ≤ x from h]
  · rw [if_neg h]; simp [show ¬ lo ≤ x from h]
theorem inB_iff {lo hi x : Int} : inB lo hi x = true ↔ lo ≤ x ∧ x ≤ hi := by simp [inB]
theorem Ev.all {α : Type} {f : Option α} {r : α} (h : f = some r) : Ev (fun _ => f) r := ⟨0, fun _ _ => h⟩
theorem Ev.from {α : Type} {g : Nat → Option α} {r : α} (K : Nat) (h : ∀ k, K < k → g k = some r) : Ev g r := ⟨K + 1, fun k hk => h k (by omega)⟩
theorem l1All_l (lo hi : Int) (l : List Int) (hl : (l.length : Int) ≤ 9223372036854775806) (d : Nat) : ∀ (i k : Nat), i + d = l.length → d < k → spec_l1All.l0 k lo hi l (l.length : Int) (i : Int) = some ((l.drop i).all (inB lo hi)) := by
  induction d with
  | zero =>
    intro i k hi' hk
    obtain ⟨k, rfl⟩ : ∃ m, k = m + 1 := ⟨k - 1, by omega⟩
    simp only [spec_l1All.l0]
    rw [if_neg (by omega), List.drop_of_length_le (by omega)]
    rfl
  | succ d ih =>
    intro i k hi' hk
    obtain ⟨k, rfl⟩ : ∃ m, k = m + 1 := ⟨k - 1, by omega⟩
    have hil : i < l.length := by omega
    simp only [spec_l1All.l0]
    rw [if_pos (by omega), if_pos (by omega), if_pos (by omega), l1In_f, rdi_at hil, wrap_id (by omega) (by omega)]
    simp only [Option.bind_some]
    rw [List.drop_eq_getElem_cons hil, List.all_cons]
    cases inB lo hi l[i] with
    | false => simp
    | true =>
      simp only [if_true, Bool.true_and]
      exact ih (i + 1) k (by omega) (by omega)
theorem l1All_ev (lo hi : Int) (l : List Int) (hl : (l.length : Int) ≤ 9223372036854775806) : Ev (fun k => spec_l1All.f k l lo hi) (l.all (inB lo hi)) :=
  Ev.from l.length (fun k hk => by
    have := l1All_l lo hi l hl l.length 0 k (by omega) hk
    simpa [spec_l1All.f] using this)

def bnd (x : Int) : Prop := -1000000 ≤ x ∧ x ≤ 1000000
theorem sqb {a b A B : Int} (h0 : -A ≤ a) (h1 : a ≤ A) (h2 : -B ≤ b) (h3 : b ≤ B) : -(A * B) ≤ a * b ∧ a * b ≤ A * B := by
  have p1 := Int.mul_nonneg (show 0 ≤ A - a by omega) (show 0 ≤ B + b by omega)
  have p2 := Int.mul_nonneg (show 0 ≤ A + a by omega) (show 0 ≤ B - b by omega)
  have p3 := Int.mul_nonneg (show 0 ≤ A - a by omega) (show 0 ≤ B - b by omega)
  have p4 := Int.mul_nonneg (show 0 ≤ A + a by omega) (show 0 ≤ B + b by omega)
  constructor <;> grind
theorem isC_iff (x : S25) : isC x = true ↔ (bnd x.f0 ∧ bnd x.f1 ∧ bnd x.f2 ∧ bnd x.f3) ∧ x.f2 * x.f2 + x.f3 * x.f3 - x.f0 * x.f1 = 1 := by
  unfold isC bnd
  simp only [List.all_cons, List.all_nil, Bool.and_true, Bool.and_eq_true, inB_iff, beq_iff_eq]
  constructor
  · rintro ⟨⟨h0, h1, h2, h3⟩, h⟩
    have a := sqb (A := 1000000) (B := 1000000) (by omega) h0.2 (by omega) h1.2
    have b := sqb (A := 1000000) (B := 1000000) (by omega) h2.2 (by omega) h2.2
    have c := sqb (A := 1000000) (B := 1000000) (by omega) h3.2 (by omega) h3.2
    rw [wrap_id (x := x.f2 * x.f2) (by omega) (by omega), wrap_id (x := x.f3 * x.f3) (by omega) (by omega), wrap_id (x := x.f0 * x.f1) (by omega) (by omega), wrap_id (x := x.f2 * x.f2 + x.f3 * x.f3) (by omega) (by omega), wrap_id (by omega) (by omega)] at h
    exact ⟨⟨h0, h1, h2, h3⟩, h⟩
  · rintro ⟨⟨h0, h1, h2, h3⟩, h⟩
    have a := sqb (A := 1000000) (B := 1000000) (by omega) h0.2 (by omega) h1.2
    have b := sqb (A := 1000000) (B := 1000000) (by omega) h2.2 (by omega) h2.2
    have c := sqb (A := 1000000) (B := 1000000) (by omega) h3.2 (by omega) h3.2
    rw [wrap_id (x := x.f2 * x.f2) (by omega) (by omega), wrap_id (x := x.f3 * x.f3) (by omega) (by omega), wrap_id (x := x.f0 * x.f1) (by omega) (by omega), wrap_id (x := x.f2 * x.f2 + x.f3 * x.f3) (by omega) (by omega), wrap_id (x := x.f2 * x.f2 + x.f3 * x.f3 - x.f0 * x.f1) (by omega) (by omega)]
    exact ⟨⟨h0, h1, h2, h3⟩, h⟩
theorem ciGood_ev (a b c d : Int) : Ev (fun k => spec_ciGood.f k a b c d) (isC ⟨a, b, c, d⟩) := by
  have h := l1All_ev (-1000000) 1000000 [a, b, c, d] (by simp)
  unfold spec_ciGood.f
  refine Ev.bind h ?_
  unfold isC
  cases ([a, b, c, d] : List Int).all (inB (-1000000) 1000000) with
  | true => simp only [if_true]; exact Ev.now _
  | false => simp only [Bool.false_eq_true, if_false]; exact Ev.now _
theorem eqCircle_f (a b c d : Int) : laws_eqCircle.f a b c d a b c d = some true := by
  unfold laws_eqCircle.f
  simp
/-- the twice product, in whole numbers -/
def twi (x y : S25) : Int := 2 * x.f2 * y.f2 + 2 * x.f3 * y.f3 - x.f0 * y.f1 - x.f1 * y.f0
theorem twi_b {x y : S25} (hx : bnd x.f0 ∧ bnd x.f1 ∧ bnd x.f2 ∧ bnd x.f3) (hy : bnd y.f0 ∧ bnd y.f1 ∧ bnd y.f2 ∧ bnd y.f3) : -6000000000000 ≤ twi x y ∧ twi x y ≤ 6000000000000 ∧ impl_twice.f x.f0 x.f1 x.f2 x.f3 y.f0 y.f1 y.f2 y.f3 = some (twi x y) := by
  unfold bnd at hx hy
  have a := sqb (a := 2 * x.f2) (b := y.f2) (A := 2000000) (B := 1000000) (by omega) (by omega) (by omega) (by omega)
  have b := sqb (a := 2 * x.f3) (b := y.f3) (A := 2000000) (B := 1000000) (by omega) (by omega) (by omega) (by omega)
  have c := sqb (a := x.f0) (b := y.f1) (A := 1000000) (B := 1000000) (by omega) (by omega) (by omega) (by omega)
  have d := sqb (a := x.f1) (b := y.f0) (A := 1000000) (B := 1000000) (by omega) (by omega) (by omega) (by omega)
  refine ⟨by unfold twi; omega, by unfold twi; omega, ?_⟩
  unfold impl_twice.f twi
  rw [wrap_id (x := 2 * x.f2) (by omega) (by omega), wrap_id (x := 2 * x.f3) (by omega) (by omega), wrap_id (x := 2 * x.f2 * y.f2) (by omega) (by omega), wrap_id (x := 2 * x.f3 * y.f3) (by omega) (by omega), wrap_id (x := x.f0 * y.f1) (by omega) (by omega), wrap_id (x := x.f1 * y.f0) (by omega) (by omega), wrap_id (x := 2 * x.f2 * y.f2 + 2 * x.f3 * y.f3) (by omega) (by omega), wrap_id (x := 2 * x.f2 * y.f2 + 2 * x.f3 * y.f3 - x.f0 * y.f1) (by omega) (by omega), wrap_id (x := 2 * x.f2 * y.f2 + 2 * x.f3 * y.f3 - x.f0 * y.f1 - x.f1 * y.f0) (by omega) (by omega)]
theorem ciTwice_f (a b c d e f g h : Int) : spec_ciTwice.f a b c d e f g h = impl_twice.f a b c d e f g h := rfl

def mkC : Int → Nat → List S25
  | _, 0 => []
  | m, n + 1 => ⟨m, m + 1, m + 2, m + 3⟩ :: mkC (m + 4) n
theorem rdC_at {l : List S25} {i : Nat} (h : i < l.length) : rd_T25 l (i : Int) = l[i] := by simp [rd_T25, List.getD_eq_getElem?_getD, List.getElem?_eq_getElem h]
theorem rdC3_at {l : List S23} {i : Nat} (h : i < l.length) : rd_T23 l (i : Int) = l[i] := by simp [rd_T23, List.getD_eq_getElem?_getD, List.getElem?_eq_getElem h]
theorem eqCircleS_l (l : List S25) (hl : (l.length : Int) ≤ 9223372036854775806) (d : Nat) : ∀ (i : Nat) (k : Nat), i + d = l.length → d < k → laws_eqCircleS.l0 k l l (i : Int) = some true := by
  induction d with
  | zero =>
    intro i k hi hk
    obtain ⟨k, rfl⟩ : ∃ m, k = m + 1 := ⟨k - 1, by omega⟩
    simp only [laws_eqCircleS.l0]
    rw [if_neg (by omega)]
  | succ d ih =>
    intro i k hi hk
    obtain ⟨k, rfl⟩ : ∃ m, k = m + 1 := ⟨k - 1, by omega⟩
    simp only [laws_eqCircleS.l0]
    rw [if_pos (by omega), if_pos (by omega), if_pos (by omega), eqCircle_f, wrap_id (by omega) (by omega)]
    simp only [Option.bind_some, if_true]
    exact ih (i + 1) k (by omega) (by omega)
theorem eqCircleS_refl (l : List S25) (hl : (l.length : Int) ≤ 9223372036854775806) (k : Nat) (hk : l.length < k) : laws_eqCircleS.f k l l = some true := by
  unfold laws_eqCircleS.f
  rw [if_pos rfl]
  exact eqCircleS_l l hl l.length 0 k (by omega) hk
theorem eqCircleS_ev (l : List S25) (hl : (l.length : Int) ≤ 9223372036854775806) : Ev (fun k => laws_eqCircleS.f k l l) true := Ev.from l.length (fun k hk => eqCircleS_refl l hl k hk)
theorem markCircleS_l (d : Nat) : ∀ (i : Nat) (k : Nat) (x0 : List S25) (x1 : Int), i + d = x0.length → d < k → (x0.length : Int) ≤ 1152921504606846976 → 0 ≤ x1 → x1 + 4 * d ≤ 9223372036854775800 →
    laws_markCircleS.l0 k x0 x1 (i : Int) = some (x1 + 4 * d, x0.take i ++ mkC x1 d) := by
  induction d with
  | zero =>
    intro i k x0 x1 hi hk _ _ _
    obtain ⟨k, rfl⟩ : ∃ m, k = m + 1 := ⟨k - 1, by omega⟩
    simp only [laws_markCircleS.l0]
    rw [if_neg (by omega), List.take_of_length_le (by omega)]
    simp [mkC]
  | succ d ih =>
    intro i k x0 x1 hi hk h1 h2 h3
    obtain ⟨k, rfl⟩ : ∃ m, k = m + 1 := ⟨k - 1, by omega⟩
    have hil : i < x0.length := by omega
    simp only [laws_markCircleS.l0]
    rw [if_pos (by omega), if_pos (by omega), wrap_id (x := x1 + 1) (by omega) (by omega), wrap_id (x := x1 + 1 + 1) (by omega) (by omega), wrap_id (x := x1 + 1 + 1 + 1) (by omega) (by omega), wrap_id (x := x1 + 1 + 1 + 1 + 1) (by omega) (by omega), wrap_id (x := (i : Int) + 1) (by omega) (by omega)]
    simp only [Option.bind_some, Int.toNat_natCast]
    have e2 : ∀ (l : List S25) (y : S25), i < l.length → rd_T25 (l.set i y) (i : Int) = y := fun l y h => by
      rw [rdC_at (by simpa using h)]
      simp
    rw [e2 _ _ hil]
    simp only [List.set_set]
    rw [e2 _ _ hil]
    simp only [List.set_set]
    rw [e2 _ _ hil]
    simp only [List.set_set]
    have := ih (i + 1) k (x0.set i ⟨x1, x1 + 1, x1 + 1 + 1, x1 + 1 + 1 + 1⟩) (x1 + 1 + 1 + 1 + 1) (by simp; omega) (by omega) (by simp; omega) (by omega) (by omega)
    rw [show ((i : Int) + 1) = ((i + 1 : Nat) : Int) by omega, this]
    congr 1
    refine Prod.ext (by simp only; omega) ?_
    simp only [mkC]
    rw [List.take_succ_eq_append_getElem (by simp; omega), List.take_set, List.set_eq_of_length_le (by simp; omega)]
    simp only [List.getElem_set_self, List.append_assoc, List.singleton_append]
    rw [show x1 + 1 + 1 = x1 + 2 by omega, show x1 + 2 + 1 = x1 + 3 by omega, show x1 + 3 + 1 = x1 + 4 by omega]
theorem markCircleS_f (l : List S25) (m : Int) (k : Nat) (hk : l.length < k) (h1 : (l.length : Int) ≤ 1152921504606846976) (h2 : 0 ≤ m) (h3 : m + 4 * l.length ≤ 9223372036854775800) : laws_markCircleS.f k l m = some (m + 4 * l.length, mkC m l.length) := by
  unfold laws_markCircleS.f
  have := markCircleS_l l.length 0 k l m (by omega) hk h1 h2 h3
  simpa using this
theorem markCircleS_ev (l : List S25) (h1 : (l.length : Int) ≤ 1152921504606846976) : Ev (fun k => laws_markCircleS.f k l 1) (1 + 4 * (l.length : Int), mkC 1 l.length) := Ev.from l.length (fun k hk => markCircleS_f l 1 k hk h1 (by omega) (by omega))
def toC (x : S23) : S25 := ⟨x.f0, x.f1, x.f2, x.f3⟩
theorem toCircleS_l (d : Nat) : ∀ (i k : Nat) (l : List S23) (x : List S25), i + d = l.length → x.length = l.length → x.take i = (l.map toC).take i → d < k → (l.length : Int) ≤ 9223372036854775806 → laws_toCircleS.l0 k l x (i : Int) = some (l.map toC) := by
  induction d with
  | zero =>
    intro i k l x hi hx ht hk hl
    obtain ⟨k, rfl⟩ : ∃ m, k = m + 1 := ⟨k - 1, by omega⟩
    simp only [laws_toCircleS.l0]
    rw [if_neg (by omega)]
    rw [List.take_of_length_le (by omega), List.take_of_length_le (by simp; omega)] at ht
    rw [ht]
  | succ d ih =>
    intro i k l x hi hx ht hk hl
    obtain ⟨k, rfl⟩ : ∃ m, k = m + 1 := ⟨k - 1, by omega⟩
    have hil : i < l.length := by omega
    simp only [laws_toCircleS.l0, laws_toCircle.f]
    rw [if_pos (by omega), if_pos (by omega), rdC3_at hil]
    simp only [Option.bind_some]
    rw [if_pos (by omega), wrap_id (by omega) (by omega)]
    simp only [Int.toNat_natCast]
    rw [show ((i : Int) + 1) = ((i + 1 : Nat) : Int) by omega]
    refine ih (i + 1) k l _ (by omega) (by simpa using hx) ?_ (by omega) hl
    rw [List.take_succ_eq_append_getElem (by simp; omega), List.take_succ_eq_append_getElem (by simp; omega), List.take_set, List.set_eq_of_length_le (by simp; omega), ht]
    simp [toC]
theorem toCircleS_ev (l : List S23) (hl : l.length ≤ 8796093022208) : Ev (fun k => laws_toCircleS.f k l) (l.map toC) := Ev.from l.length (fun k hk => by
  unfold laws_toCircleS.f
  rw [if_pos (by omega), if_pos (by omega)]
  exact toCircleS_l l.length 0 k l _ (by omega) (by simp) (by simp) hk (by omega))
theorem szCircleS_f (l : List S23) (hl : l.length ≤ 8796093022208) : laws_szCircleS.f l 1048576 = some (if l.length ≤ 1048576 then 1048576 - (l.length : Int) else -1) := by
  unfold laws_szCircleS.f
  rw [wrap_id (by omega) (by omega)]
  by_cases h : l.length ≤ 1048576
  · rw [if_neg (by omega), if_pos h]
  · rw [if_pos (by omega), if_neg h]

def bndC (x : S25) : Prop := bnd x.f0 ∧ bnd x.f1 ∧ bnd x.f2 ∧ bnd x.f3
theorem twice_f {x y : S25} (hx : bndC x) (hy : bndC y) : impl_twice.f x.f0 x.f1 x.f2 x.f3 y.f0 y.f1 y.f2 y.f3 = some (twi x y) := (twi_b hx hy).2.2
theorem isC_bnd {x : S25} (h : isC x = true) : bndC x := ((isC_iff x).1 h).1
/-- the pairs of one circle with those behind it -/
def tl (c : S25) : List S25 → Nat → Nat → List (List Int)
  | [], _, _ => []
  | d :: ds, i, j => (if twi c d = -2 then [[(i : Int), (j : Int)]] else []) ++ tl c ds i (j + 1)
def pairsOf : List S25 → Nat → List (List Int)
  | [], _ => []
  | c :: cs, i => tl c cs i (i + 1) ++ pairsOf cs (i + 1)
theorem tl_length (c : S25) (l : List S25) : ∀ i j, (tl c l i j).length ≤ l.length := by
  induction l with
  | nil => intro i j; simp [tl]
  | cons d ds ih =>
    intro i j
    have := ih i (j + 1)
    simp only [tl, List.length_append, List.length_cons]
    split <;> simp <;> omega
theorem touching_A (l : List S25) (n : Nat) (hn : l.length = n) (hn1 : n ≤ 100000) (hb : ∀ x ∈ l, bndC x) (i : Nat) (hi : i < n) (F : Nat)
    (hB : ∀ (k : Nat) (x3 : List (List Int)), F < k → x3.length + (n - (i + 1)) * n ≤ 1000000000000 → impl_touching.l0 k l x3 l (n : Int) ((i + 1 : Nat) : Int) = some (x3 ++ pairsOf (l.drop (i + 1)) (i + 1))) (c : S25) (hc : bndC c) (d : Nat) :
    ∀ (j k : Nat) (x3 : List (List Int)), j + d = n → F + d + 1 < k → x3.length + d + (n - (i + 1)) * n ≤ 1000000000000 →
      impl_touching.l1 k l x3 (i : Int) (j : Int) l (n : Int) (i : Int) c.f0 c.f1 c.f2 c.f3 = some (x3 ++ tl c (l.drop j) i j ++ pairsOf (l.drop (i + 1)) (i + 1)) := by
  induction d with
  | zero =>
    intro j k x3 hj hk hx
    obtain ⟨k, rfl⟩ : ∃ m, k = m + 1 := ⟨k - 1, by omega⟩
    simp only [impl_touching.l1]
    rw [if_neg (by omega), wrap_id (by omega) (by omega), List.drop_of_length_le (by omega), show ((i : Int) + 1) = ((i + 1 : Nat) : Int) by omega, hB k x3 (by omega) (by omega)]
    simp [tl]
  | succ d ih =>
    intro j k x3 hj hk hx
    obtain ⟨k, rfl⟩ : ∃ m, k = m + 1 := ⟨k - 1, by omega⟩
    have hjl : j < l.length := by omega
    simp only [impl_touching.l1]
    rw [if_pos (by omega), if_pos (by omega), rdC_at hjl, twice_f hc (hb _ (List.getElem_mem hjl)), wrap_id (by omega) (by omega)]
    simp only [Option.bind_some]
    rw [List.drop_eq_getElem_cons hjl, tl, show ((j : Int) + 1) = ((j + 1 : Nat) : Int) by omega]
    by_cases ht : twi c l[j] = -2
    · rw [if_pos ht, if_pos (by omega), if_pos ht, ih (j + 1) k _ (by omega) (by omega) (by simp; omega)]
      simp
    · rw [if_neg ht, if_neg ht, ih (j + 1) k _ (by omega) (by omega) (by omega)]
      simp
theorem touching_B (l : List S25) (n : Nat) (hn : l.length = n) (hn1 : n ≤ 100000) (hb : ∀ x ∈ l, bndC x) (d : Nat) :
    ∀ (i k : Nat) (x3 : List (List Int)), i + d = n → d * (n + 3) < k → x3.length + (n - i) * n ≤ 1000000000000 → impl_touching.l0 k l x3 l (n : Int) (i : Int) = some (x3 ++ pairsOf (l.drop i) i) := by
  induction d with
  | zero =>
    intro i k x3 hi hk hx
    obtain ⟨k, rfl⟩ : ∃ m, k = m + 1 := ⟨k - 1, by omega⟩
    simp only [impl_touching.l0]
    rw [if_neg (by omega), List.drop_of_length_le (by omega)]
    simp [pairsOf]
  | succ d ih =>
    intro i k x3 hi hk hx
    obtain ⟨k, rfl⟩ : ∃ m, k = m + 1 := ⟨k - 1, by omega⟩
    have hil : i < l.length := by omega
    have e : (d + 1) * (n + 3) = d * (n + 3) + (n + 3) := by rw [Nat.add_mul]; omega
    have e2 : (n - i) * n = (n - (i + 1)) * n + n := by rw [show n - i = (n - (i + 1)) + 1 by omega, Nat.add_mul]; omega
    simp only [impl_touching.l0]
    rw [if_pos (by omega), if_pos (by omega), if_pos (by omega), rdC_at hil, wrap_id (by omega) (by omega), show ((i : Int) + 1) = ((i + 1 : Nat) : Int) by omega]
    rw [touching_A l n hn hn1 hb i (by omega) (d * (n + 3)) (fun k x3 hk hx => ih (i + 1) k x3 (by omega) hk hx) l[i] (hb _ (List.getElem_mem hil)) (n - (i + 1)) (i + 1) k x3 (by omega) (by omega) (by omega)]
    rw [List.drop_eq_getElem_cons hil, pairsOf, List.append_assoc]
theorem touching_ev (l : List S25) (hn1 : l.length ≤ 100000) (hb : ∀ x ∈ l, bndC x) : Ev (fun k => impl_touching.f k l) (pairsOf l 0) := Ev.from (l.length * (l.length + 3)) (fun k hk => by
  unfold impl_touching.f
  have hm : l.length * l.length ≤ 100000 * 100000 := Nat.mul_le_mul hn1 hn1
  have := touching_B l l.length rfl hn1 hb l.length 0 k [] (by omega) hk (by simp; omega)
  simpa using this)
end Go.Proofs.Ytjnpopipdnaaiaa.P
