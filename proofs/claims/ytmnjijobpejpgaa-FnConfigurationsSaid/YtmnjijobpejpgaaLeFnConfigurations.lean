import Derived.Test.YtmnjijobpejpgaaP1
import Derived.Test.YtmnjijobpejpgaaP2
import Derived.Test.YtmnjijobpejpgaaP3
import Derived.Test.YtmnjijobpejpgaaP4
import Derived.Test.YtmnjijobpejpgaaP5
import Derived.Test.YtmnjijobpejpgaaP10
import Derived.Test.YtmnjijobpejpgaaP14
import Derived.Test.YtmnjijobpejpgaaP18
import Derived.Test.YtmnjijobpejpgaaP19
import Derived.Test.YtmnjijobpejpgaaP20
import Derived.Test.YtmnjijobpejpgaaP21
import Derived.Test.YtmnjijobpejpgaaP24
import Derived.Test.YtmnjijobpejpgaaP29
import Derived.Test.YtmnjijobpejpgaaP30
import Derived.Test.YtmnjijobpejpgaaP31
import Derived.Test.YtmnjijobpejpgaaP32
import Derived.Test.YtmnjijobpejpgaaP33
import Derived.Test.YtmnjijobpejpgaaP34
import Derived.Test.YtmnjijobpejpgaaP35
import Derived.Test.YtmnjijobpejpgaaP36
import Derived.Test.YtmnjijobpejpgaaP37
import Derived.Test.YtmnjijobpejpgaaP38
import Derived.Test.YtmnjijobpejpgaaP39
import Derived.Test.YtmnjijobpejpgaaP40
import Derived.Test.YtmnjijobpejpgaaP41
import Derived.Test.YtmnjijobpejpgaaP42
import Derived.Laws.BitsAllLaws
namespace Go.Proofs.Ytmnjijobpejpgaa.P
open Go.RowKit Go.Proofs.YtmnjijobpejpgaaW.PrintWords Go.Proofs.YtmnjijobpejpgaaW.PrintLast Go.Proofs.YtmnjijobpejpgaaW.PrintMore
theorem wrap_id {x : Int} (h0 : -9223372036854775808 ≤ x) (h1 : x ≤ 9223372036854775807) : wrap64 x = x := by unfold wrap64; omega
theorem rdi_at {l : List Int} {i : Nat} (h : i < l.length) : rd l (i : Int) = l[i] := by simp [rd, List.getD_eq_getElem?_getD, List.getElem?_eq_getElem h]
theorem l1In_f (x lo hi : Int) : spec_l1In.f x lo hi = some (inB lo hi x) := by
  unfold spec_l1In.f inB
  by_cases h : x ≥ lo
  · rw [if_pos h]; simp [show lo ≤ x from h]
  · rw [if_neg h]; simp [show ¬ lo ≤ x from h]
theorem inB_iff {lo hi x : Int} : inB lo hi x = true ↔ lo ≤ x ∧ x ≤ hi := by simp [inB]
theorem inB_of {lo hi x : Int} (h : lo ≤ x ∧ x ≤ hi) : inB lo hi x = true := inB_iff.2 h
theorem Ev.all {α : Type} {f : Option α} {r : α} (h : f = some r) : Ev (fun _ => f) r := ⟨0, fun _ _ => h⟩
theorem Ev.from {α : Type} {g : Nat → Option α} {r : α} (K : Nat) (h : ∀ k, K < k → g k = some r) : Ev g r := ⟨K + 1, fun k hk => h k (by omega)⟩
theorem l1All_l (lo hi : Int) (l : List Int) (hl : (l.length : Int) ≤ 9223372036854775806) (d : Nat) : ∀ (i k : Nat), i + d = l.length → d < k → spec_l1All.l0 k lo hi l (l.length : Int) (i : Int) = some ((l.drop i).all (inB lo hi)) := by
  induction d with
  | zero =>
    intro i k hi' hk
    obtain ⟨k, rfl⟩ : ∃ m, k = m + 1 := ⟨k - 1, by omega⟩
    simp only [spec_l1All.l0]
    rw [if_neg (by omega), List.drop_of_length_le (by omega)]
    rfl
  | succ d ih =>
    intro i k hi' hk
    obtain ⟨k, rfl⟩ : ∃ m, k = m + 1 := ⟨k - 1, by omega⟩
    have hil : i < l.length := by omega
    simp only [spec_l1All.l0]
    rw [if_pos (by omega), if_pos (by omega), if_pos (by omega), l1In_f, rdi_at hil, wrap_id (by omega) (by omega)]
    simp only [Option.bind_some]
    rw [List.drop_eq_getElem_cons hil, List.all_cons]
    cases inB lo hi l[i] with
    | false => simp
    | true =>
      simp only [if_true, Bool.true_and]
      exact ih (i + 1) k (by omega) (by omega)
theorem l1All_ev (lo hi : Int) (l : List Int) (hl : (l.length : Int) ≤ 9223372036854775806) : Ev (fun k => spec_l1All.f k l lo hi) (l.all (inB lo hi)) :=
  Ev.from l.length (fun k hk => by
    have := l1All_l lo hi l hl l.length 0 k (by omega) hk
    simpa [spec_l1All.f] using this)
def bnd (x : Int) : Prop := -1000000 ≤ x ∧ x ≤ 1000000
theorem sqb {a b A B : Int} (h0 : -A ≤ a) (h1 : a ≤ A) (h2 : -B ≤ b) (h3 : b ≤ B) : -(A * B) ≤ a * b ∧ a * b ≤ A * B := by
  have p1 := Int.mul_nonneg (show 0 ≤ A - a by omega) (show 0 ≤ B + b by omega)
  have p2 := Int.mul_nonneg (show 0 ≤ A + a by omega) (show 0 ≤ B - b by omega)
  have p3 := Int.mul_nonneg (show 0 ≤ A - a by omega) (show 0 ≤ B - b by omega)
  have p4 := Int.mul_nonneg (show 0 ≤ A + a by omega) (show 0 ≤ B + b by omega)
  constructor <;> grind
theorem isC_iff (x : S38) : isC x = true ↔ (bnd x.f0 ∧ bnd x.f1 ∧ bnd x.f2 ∧ bnd x.f3) ∧ x.f2 * x.f2 + x.f3 * x.f3 - x.f0 * x.f1 = 1 := by
  unfold isC bnd
  simp only [List.all_cons, List.all_nil, Bool.and_true, Bool.and_eq_true, inB_iff, beq_iff_eq]
  constructor
  · rintro ⟨⟨h0, h1, h2, h3⟩, h⟩
    have a := sqb (A := 1000000) (B := 1000000) (by omega) h0.2 (by omega) h1.2
    have b := sqb (A := 1000000) (B := 1000000) (by omega) h2.2 (by omega) h2.2
    have c := sqb (A := 1000000) (B := 1000000) (by omega) h3.2 (by omega) h3.2
    rw [wrap_id (x := x.f2 * x.f2) (by omega) (by omega), wrap_id (x := x.f3 * x.f3) (by omega) (by omega), wrap_id (x := x.f0 * x.f1) (by omega) (by omega), wrap_id (x := x.f2 * x.f2 + x.f3 * x.f3) (by omega) (by omega), wrap_id (by omega) (by omega)] at h
    exact ⟨⟨h0, h1, h2, h3⟩, h⟩
  · rintro ⟨⟨h0, h1, h2, h3⟩, h⟩
    have a := sqb (A := 1000000) (B := 1000000) (by omega) h0.2 (by omega) h1.2
    have b := sqb (A := 1000000) (B := 1000000) (by omega) h2.2 (by omega) h2.2
    have c := sqb (A := 1000000) (B := 1000000) (by omega) h3.2 (by omega) h3.2
    rw [wrap_id (x := x.f2 * x.f2) (by omega) (by omega), wrap_id (x := x.f3 * x.f3) (by omega) (by omega), wrap_id (x := x.f0 * x.f1) (by omega) (by omega), wrap_id (x := x.f2 * x.f2 + x.f3 * x.f3) (by omega) (by omega), wrap_id (x := x.f2 * x.f2 + x.f3 * x.f3 - x.f0 * x.f1) (by omega) (by omega)]
    exact ⟨⟨h0, h1, h2, h3⟩, h⟩
theorem ciGood_ev (a b c d : Int) : Ev (fun k => spec_ciGood.f k a b c d) (isC ⟨a, b, c, d⟩) := by
  have h := l1All_ev (-1000000) 1000000 [a, b, c, d] (by simp)
  unfold spec_ciGood.f
  refine Ev.bind h ?_
  unfold isC
  cases ([a, b, c, d] : List Int).all (inB (-1000000) 1000000) with
  | true => simp only [if_true]; exact Ev.now _
  | false => simp only [Bool.false_eq_true, if_false]; exact Ev.now _
/-- bounds alone: what 'drawn' asks. -/
def inC (x : S38) : Bool := ([x.f0, x.f1, x.f2, x.f3] : List Int).all (inB (-1000000) 1000000)
theorem inC_iff (x : S38) : inC x = true ↔ bnd x.f0 ∧ bnd x.f1 ∧ bnd x.f2 ∧ bnd x.f3 := by
  unfold inC bnd
  simp only [List.all_cons, List.all_nil, Bool.and_true, Bool.and_eq_true, inB_iff]
theorem ciIf_ev (a b c d : Int) : Ev (fun k => spec_ciIf.f k a b c d) (if isC ⟨a, b, c, d⟩ = true then (a, b, c, d, true) else (0, 0, 0, 0, false)) := by
  unfold spec_ciIf.f
  refine Ev.bind (ciGood_ev a b c d) ?_
  cases isC ⟨a, b, c, d⟩ with
  | true => simp only [if_true]; exact Ev.now _
  | false => simp only [Bool.false_eq_true, if_false]; exact Ev.now _
/-- the twice product, in whole numbers -/
def twi (x y : S38) : Int := 2 * x.f2 * y.f2 + 2 * x.f3 * y.f3 - x.f0 * y.f1 - x.f1 * y.f0
theorem twi_b {x y : S38} (hx : bnd x.f0 ∧ bnd x.f1 ∧ bnd x.f2 ∧ bnd x.f3) (hy : bnd y.f0 ∧ bnd y.f1 ∧ bnd y.f2 ∧ bnd y.f3) : -6000000000000 ≤ twi x y ∧ twi x y ≤ 6000000000000 ∧ impl_twice.f x.f0 x.f1 x.f2 x.f3 y.f0 y.f1 y.f2 y.f3 = some (twi x y) := by
  unfold bnd at hx hy
  have a := sqb (a := 2 * x.f2) (b := y.f2) (A := 2000000) (B := 1000000) (by omega) (by omega) (by omega) (by omega)
  have b := sqb (a := 2 * x.f3) (b := y.f3) (A := 2000000) (B := 1000000) (by omega) (by omega) (by omega) (by omega)
  have c := sqb (a := x.f0) (b := y.f1) (A := 1000000) (B := 1000000) (by omega) (by omega) (by omega) (by omega)
  have d := sqb (a := x.f1) (b := y.f0) (A := 1000000) (B := 1000000) (by omega) (by omega) (by omega) (by omega)
  refine ⟨by unfold twi; omega, by unfold twi; omega, ?_⟩
  unfold impl_twice.f twi
  rw [wrap_id (x := 2 * x.f2) (by omega) (by omega), wrap_id (x := 2 * x.f3) (by omega) (by omega), wrap_id (x := 2 * x.f2 * y.f2) (by omega) (by omega), wrap_id (x := 2 * x.f3 * y.f3) (by omega) (by omega), wrap_id (x := x.f0 * y.f1) (by omega) (by omega), wrap_id (x := x.f1 * y.f0) (by omega) (by omega), wrap_id (x := 2 * x.f2 * y.f2 + 2 * x.f3 * y.f3) (by omega) (by omega), wrap_id (x := 2 * x.f2 * y.f2 + 2 * x.f3 * y.f3 - x.f0 * y.f1) (by omega) (by omega), wrap_id (x := 2 * x.f2 * y.f2 + 2 * x.f3 * y.f3 - x.f0 * y.f1 - x.f1 * y.f0) (by omega) (by omega)]
theorem ciTwice_f (a b c d e f g h : Int) : spec_ciTwice.f a b c d e f g h = impl_twice.f a b c d e f g h := rfl
theorem rdC_at {l : List S38} {i : Nat} (h : i < l.length) : rd_T38 l (i : Int) = l[i] := by simp [rd_T38, List.getD_eq_getElem?_getD, List.getElem?_eq_getElem h]
def bndC (x : S38) : Prop := bnd x.f0 ∧ bnd x.f1 ∧ bnd x.f2 ∧ bnd x.f3
theorem twi_comm (x y : S38) : twi x y = twi y x := by unfold twi; grind
theorem twice_f {x y : S38} (hx : bndC x) (hy : bndC y) : impl_twice.f x.f0 x.f1 x.f2 x.f3 y.f0 y.f1 y.f2 y.f3 = some (twi x y) := (twi_b hx hy).2.2
theorem isC_bnd {x : S38} (h : isC x = true) : bndC x := ((isC_iff x).1 h).1
/-- the pairs of one circle with those behind it -/
def tl (c : S38) : List S38 → Nat → Nat → List (List Int)
  | [], _, _ => []
  | d :: ds, i, j => (if twi c d = -2 then [[(i : Int), (j : Int)]] else []) ++ tl c ds i (j + 1)
def pairsOf : List S38 → Nat → List (List Int)
  | [], _ => []
  | c :: cs, i => tl c cs i (i + 1) ++ pairsOf cs (i + 1)
theorem touching_A (l : List S38) (n : Nat) (hn : l.length = n) (hn1 : n ≤ 100000) (hb : ∀ x ∈ l, bndC x) (i : Nat) (hi : i < n) (F : Nat)
    (hB : ∀ (k : Nat) (x3 : List (List Int)), F < k → x3.length + (n - (i + 1)) * n ≤ 1000000000000 → impl_touching.l0 k l x3 l (n : Int) ((i + 1 : Nat) : Int) = some (x3 ++ pairsOf (l.drop (i + 1)) (i + 1))) (c : S38) (hc : bndC c) (d : Nat) :
    ∀ (j k : Nat) (x3 : List (List Int)), j + d = n → F + d + 1 < k → x3.length + d + (n - (i + 1)) * n ≤ 1000000000000 →
      impl_touching.l1 k l x3 (i : Int) (j : Int) l (n : Int) (i : Int) c.f0 c.f1 c.f2 c.f3 = some (x3 ++ tl c (l.drop j) i j ++ pairsOf (l.drop (i + 1)) (i + 1)) := by
  induction d with
  | zero =>
    intro j k x3 hj hk hx
    obtain ⟨k, rfl⟩ : ∃ m, k = m + 1 := ⟨k - 1, by omega⟩
    simp only [impl_touching.l1]
    rw [if_neg (by omega), wrap_id (by omega) (by omega), List.drop_of_length_le (by omega), show ((i : Int) + 1) = ((i + 1 : Nat) : Int) by omega, hB k x3 (by omega) (by omega)]
    simp [tl]
  | succ d ih =>
    intro j k x3 hj hk hx
    obtain ⟨k, rfl⟩ : ∃ m, k = m + 1 := ⟨k - 1, by omega⟩
    have hjl : j < l.length := by omega
    simp only [impl_touching.l1]
    rw [if_pos (by omega), if_pos (by omega), rdC_at hjl, twice_f hc (hb _ (List.getElem_mem hjl)), wrap_id (by omega) (by omega)]
    simp only [Option.bind_some]
    rw [List.drop_eq_getElem_cons hjl, tl, show ((j : Int) + 1) = ((j + 1 : Nat) : Int) by omega]
    by_cases ht : twi c l[j] = -2
    · rw [if_pos ht, if_pos (by omega), if_pos ht, ih (j + 1) k _ (by omega) (by omega) (by simp; omega)]
      simp
    · rw [if_neg ht, if_neg ht, ih (j + 1) k _ (by omega) (by omega) (by omega)]
      simp
theorem touching_B (l : List S38) (n : Nat) (hn : l.length = n) (hn1 : n ≤ 100000) (hb : ∀ x ∈ l, bndC x) (d : Nat) :
    ∀ (i k : Nat) (x3 : List (List Int)), i + d = n → d * (n + 3) < k → x3.length + (n - i) * n ≤ 1000000000000 → impl_touching.l0 k l x3 l (n : Int) (i : Int) = some (x3 ++ pairsOf (l.drop i) i) := by
  induction d with
  | zero =>
    intro i k x3 hi hk hx
    obtain ⟨k, rfl⟩ : ∃ m, k = m + 1 := ⟨k - 1, by omega⟩
    simp only [impl_touching.l0]
    rw [if_neg (by omega), List.drop_of_length_le (by omega)]
    simp [pairsOf]
  | succ d ih =>
    intro i k x3 hi hk hx
    obtain ⟨k, rfl⟩ : ∃ m, k = m + 1 := ⟨k - 1, by omega⟩
    have hil : i < l.length := by omega
    have e : (d + 1) * (n + 3) = d * (n + 3) + (n + 3) := by rw [Nat.add_mul]; omega
    have e2 : (n - i) * n = (n - (i + 1)) * n + n := by rw [show n - i = (n - (i + 1)) + 1 by omega, Nat.add_mul]; omega
    simp only [impl_touching.l0]
    rw [if_pos (by omega), if_pos (by omega), if_pos (by omega), rdC_at hil, wrap_id (by omega) (by omega), show ((i : Int) + 1) = ((i + 1 : Nat) : Int) by omega]
    rw [touching_A l n hn hn1 hb i (by omega) (d * (n + 3)) (fun k x3 hk hx => ih (i + 1) k x3 (by omega) hk hx) l[i] (hb _ (List.getElem_mem hil)) (n - (i + 1)) (i + 1) k x3 (by omega) (by omega) (by omega)]
    rw [List.drop_eq_getElem_cons hil, pairsOf, List.append_assoc]
theorem touching_ev (l : List S38) (hn1 : l.length ≤ 100000) (hb : ∀ x ∈ l, bndC x) : Ev (fun k => impl_touching.f k l) (pairsOf l 0) := Ev.from (l.length * (l.length + 3)) (fun k hk => by
  unfold impl_touching.f
  have hm : l.length * l.length ≤ 100000 * 100000 := Nat.mul_le_mul hn1 hn1
  have := touching_B l l.length rfl hn1 hb l.length 0 k [] (by omega) hk (by simp; omega)
  simpa using this)
theorem ciFour_l (l : List S38) (hl : (l.length : Int) ≤ 9223372036854775806) (d : Nat) : ∀ (i : Nat), i + d = l.length → Ev (fun k => spec_ciFour.l0 k l (l.length : Int) (i : Int)) ((l.drop i).all isC) := by
  induction d with
  | zero =>
    intro i hi
    refine Ev.from 0 (fun k hk => ?_)
    obtain ⟨k, rfl⟩ : ∃ m, k = m + 1 := ⟨k - 1, by omega⟩
    simp only [spec_ciFour.l0]
    rw [if_neg (by omega), List.drop_of_length_le (by omega)]
    rfl
  | succ d ih =>
    intro i hi
    have hil : i < l.length := by omega
    have hg := ciGood_ev l[i].f0 l[i].f1 l[i].f2 l[i].f3
    obtain ⟨K, hK⟩ : Ev (fun k => (spec_ciGood.f k l[i].f0 l[i].f1 l[i].f2 l[i].f3).bind fun t => if t = true then spec_ciFour.l0 k l (l.length : Int) ((i + 1 : Nat) : Int) else some false) ((l.drop i).all isC) := by
      refine Ev.bind hg ?_
      rw [List.drop_eq_getElem_cons hil, List.all_cons]
      show Ev _ (isC l[i] && _)
      cases isC l[i] with
      | true => simp only [if_true, Bool.true_and]; exact ih (i + 1) (by omega)
      | false => simp only [Bool.false_eq_true, if_false, Bool.false_and]; exact Ev.now _
    refine Ev.from (K + 1) (fun k hk => ?_)
    obtain ⟨k, rfl⟩ : ∃ m, k = m + 1 := ⟨k - 1, by omega⟩
    simp only [spec_ciFour.l0]
    rw [if_pos (by omega), if_pos (by omega), if_pos (by omega), rdC_at hil, wrap_id (by omega) (by omega), show ((i : Int) + 1) = ((i + 1 : Nat) : Int) by omega]
    exact hK k (by omega)
/-- four circles -/
def fourB (l : List S38) : Bool := decide (l.length = 4) && l.all isC
theorem ciFour_ev (l : List S38) : Ev (fun k => spec_ciFour.f k l) (fourB l) := by
  unfold spec_ciFour.f fourB
  by_cases h : l.length = 4
  · simp only [if_pos (show (l.length : Int) = 4 by omega), decide_eq_true h, Bool.true_and]
    have := ciFour_l l (by omega) l.length 0 (by omega)
    simpa using this
  · simp only [if_neg (show ¬ (l.length : Int) = 4 by omega), decide_eq_false h, Bool.false_and]
    exact Ev.now _
theorem areFour_f (l : List S38) : impl_areFour.f l = some (fourB l) := by
  unfold impl_areFour.f fourB impl_areCircles.f
  by_cases h : l.length = 4
  · rw [if_pos (show (l.length : Int) = 4 by omega), decide_eq_true h]
    rfl
  · rw [if_neg (show ¬ (l.length : Int) = 4 by omega), decide_eq_false h]
    rfl
theorem fourB_iff (l : List S38) : fourB l = true ↔ ∃ a b c d, l = [a, b, c, d] ∧ isC a = true ∧ isC b = true ∧ isC c = true ∧ isC d = true := by
  unfold fourB
  constructor
  · intro h
    simp only [Bool.and_eq_true, decide_eq_true_eq] at h
    match l, h with
    | [a, b, c, d], h => simp at h; exact ⟨a, b, c, d, rfl, h⟩
  · rintro ⟨a, b, c, d, rfl, h0, h1, h2, h3⟩
    simp [h0, h1, h2, h3]
/-- all pairs of four touch -/
def pairs4 (a b c d : S38) : Bool := decide (twi b a = -2) && (decide (twi c a = -2) && (decide (twi c b = -2) && (decide (twi d a = -2) && (decide (twi d b = -2) && decide (twi d c = -2)))))
def cfgB (l : List S38) : Bool := fourB l && match l with
  | [a, b, c, d] => pairs4 a b c d
  | _ => false
theorem to4 (a b c d : S38) : decide ((pairsOf [a, b, c, d] 0).length = 6) = pairs4 a b c d := by
  have e : (pairsOf [a, b, c, d] 0).length = (if twi b a = -2 then 1 else 0) + (if twi c a = -2 then 1 else 0) + (if twi d a = -2 then 1 else 0) + (if twi c b = -2 then 1 else 0) + (if twi d b = -2 then 1 else 0) + (if twi d c = -2 then 1 else 0) := by
    simp only [pairsOf, tl, twi_comm a b, twi_comm a c, twi_comm a d, twi_comm b c, twi_comm b d, twi_comm c d, List.length_append, List.length_nil]
    have h : ∀ (p : Prop) [Decidable p] (x : List Int), (if p then [x] else []).length = if p then 1 else 0 := by
      intro p _ x
      split <;> rfl
    simp only [h]
    omega
  rw [e]
  unfold pairs4
  by_cases h0 : twi b a = -2 <;> by_cases h1 : twi c a = -2 <;> by_cases h2 : twi c b = -2 <;> by_cases h3 : twi d a = -2 <;> by_cases h4 : twi d b = -2 <;> by_cases h5 : twi d c = -2 <;> simp [h0, h1, h2, h3, h4, h5]
theorem isConfig_ev (l : List S38) : Ev (fun k => impl_isConfig.f k l) (cfgB l) := by
  unfold impl_isConfig.f cfgB
  rw [areFour_f]
  simp only [Option.bind_some]
  cases h : fourB l with
  | false =>
    simp only [Bool.false_eq_true, if_false, Bool.false_and]
    exact Ev.now _
  | true =>
    simp only [if_true, Bool.true_and]
    obtain ⟨a, b, c, d, rfl, ha, hb, hc, hd⟩ := (fourB_iff l).1 h
    refine Ev.bind (touching_ev _ (by simp) ?_) ?_
    · intro x hx
      simp at hx
      rcases hx with rfl | rfl | rfl | rfl
      · exact isC_bnd ha
      · exact isC_bnd hb
      · exact isC_bnd hc
      · exact isC_bnd hd
    · refine Ev.all (congrArg some ?_)
      show _ = pairs4 a b c d
      rw [← to4, ← Bool.beq_eq_decide_eq]
      rw [Bool.eq_iff_iff, beq_iff_eq, beq_iff_eq]
      omega
/-- every circle from the i-th on touches all ahead of it -/
def cfr (l : List S38) : Nat → Nat → Bool
  | _, 0 => true
  | i, d + 1 => ((l.take i).all fun y => decide (twi (l.getD i z38) y = -2)) && cfr l (i + 1) d
theorem cc_A (x0 x10 : List S38) (x11 x12 : Int) (c : S38) (hc : bndC c) (ys : List S38) (hy : ∀ y ∈ ys, bndC y) (hl : ys.length ≤ 100000) (d : Nat) : ∀ (i : Nat), i + d = ys.length → ∀ R : Bool,
    (if ((ys.drop i).all fun y => decide (twi c y = -2)) = true then Ev (fun k => spec_ciConfig.l0 k x0 x10 x11 (wrap64 (x12 + 1))) R else R = false) →
    Ev (fun k => spec_ciConfig.l1 k x0 x10 x11 x12 ys (ys.length : Int) (i : Int) c.f0 c.f1 c.f2 c.f3) R := by
  induction d with
  | zero =>
    intro i hi R hR
    rw [List.drop_of_length_le (by omega)] at hR
    simp only [List.all_nil, if_true] at hR
    refine Ev.step (f := fun k => spec_ciConfig.l0 k x0 x10 x11 (wrap64 (x12 + 1))) (fun k => ?_) hR
    simp only [spec_ciConfig.l1]
    rw [if_neg (by omega)]
  | succ d ih =>
    intro i hi R hR
    have hil : i < ys.length := by omega
    rw [List.drop_eq_getElem_cons hil, List.all_cons] at hR
    by_cases ht : twi c ys[i] = -2
    · rw [decide_eq_true ht, Bool.true_and] at hR
      refine Ev.step (f := fun k => spec_ciConfig.l1 k x0 x10 x11 x12 ys (ys.length : Int) ((i + 1 : Nat) : Int) c.f0 c.f1 c.f2 c.f3) (fun k => ?_) (ih (i + 1) (by omega) R hR)
      simp only [spec_ciConfig.l1]
      rw [if_pos (by omega), if_pos (by omega), if_pos (by omega), rdC_at hil, ciTwice_f, twice_f hc (hy _ (List.getElem_mem hil)), wrap_id (by omega) (by omega)]
      simp only [Option.bind_some]
      rw [if_pos ht, show ((i : Int) + 1) = ((i + 1 : Nat) : Int) by omega]
    · rw [decide_eq_false ht, Bool.false_and, if_neg (by decide)] at hR
      subst hR
      refine Ev.step (f := fun _ => some false) (fun k => ?_) (Ev.now _)
      simp only [spec_ciConfig.l1]
      rw [if_pos (by omega), if_pos (by omega), if_pos (by omega), rdC_at hil, ciTwice_f, twice_f hc (hy _ (List.getElem_mem hil))]
      simp only [Option.bind_some]
      rw [if_neg ht]
theorem cc_B (l : List S38) (hb : ∀ y ∈ l, bndC y) (hl : l.length ≤ 100000) (d : Nat) : ∀ (i : Nat), i + d = l.length → Ev (fun k => spec_ciConfig.l0 k l l (l.length : Int) (i : Int)) (cfr l i d) := by
  induction d with
  | zero =>
    intro i hi
    refine Ev.step (f := fun _ => some true) (fun k => ?_) (Ev.now _)
    simp only [spec_ciConfig.l0]
    rw [if_neg (by omega)]
  | succ d ih =>
    intro i hi
    have hil : i < l.length := by omega
    have hr : l.getD i z38 = l[i] := by simp [List.getD_eq_getElem?_getD, List.getElem?_eq_getElem hil]
    have hlen : (l.take i).length = i := by simp; omega
    have h := cc_A l l (l.length : Int) (i : Int) l[i] (hb _ (List.getElem_mem hil)) (l.take i) (fun y hy => hb y (List.mem_of_mem_take hy)) (by omega) (l.take i).length 0 (by omega) (cfr l i (d + 1)) (by
      simp only [List.drop_zero, cfr, hr]
      split
      · rename_i hq
        rw [hq, Bool.true_and, wrap_id (by omega) (by omega), show ((i : Int) + 1) = ((i + 1 : Nat) : Int) by omega]
        exact ih (i + 1) (by omega)
      · rename_i hq
        rw [Bool.eq_false_iff.2 hq, Bool.false_and])
    refine Ev.step (f := fun k => spec_ciConfig.l1 k l l (l.length : Int) (i : Int) (l.take i) ((l.take i).length : Int) ((0 : Nat) : Int) l[i].f0 l[i].f1 l[i].f2 l[i].f3) (fun k => ?_) h
    simp only [spec_ciConfig.l0]
    rw [if_pos (by omega), if_pos (by omega), if_pos (by omega), if_pos (by omega), rdC_at hil]
    simp only [Option.bind_some, Int.toNat_natCast]
    rfl
theorem ciConfig_ev (l : List S38) : Ev (fun k => spec_ciConfig.f k l) (cfgB l) := by
  unfold spec_ciConfig.f cfgB
  refine Ev.bind (ciFour_ev l) ?_
  cases h : fourB l with
  | false =>
    simp only [Bool.false_eq_true, if_false, Bool.false_and]
    exact Ev.now _
  | true =>
    simp only [if_true, Bool.true_and]
    obtain ⟨a, b, c, d, rfl, ha, hb, hc, hd⟩ := (fourB_iff l).1 h
    have hB := cc_B [a, b, c, d] (by
      intro x hx
      simp at hx
      rcases hx with rfl | rfl | rfl | rfl
      · exact isC_bnd ha
      · exact isC_bnd hb
      · exact isC_bnd hc
      · exact isC_bnd hd) (by simp) 4 0 rfl
    have e : cfr [a, b, c, d] 0 4 = pairs4 a b c d := by
      simp [cfr, pairs4, Bool.and_assoc]
    rw [e] at hB
    exact hB
def tk (g : S38 → Int) (l : List S38) (j : Nat) : Int := ((l.take j).map g).sum
theorem tk_succ (g : S38 → Int) (l : List S38) {j : Nat} (h : j < l.length) : tk g l (j + 1) = tk g l j + g l[j] := by
  unfold tk
  rw [List.take_succ_eq_append_getElem h, List.map_append, List.sum_append]
  simp only [List.map_cons, List.map_nil, List.sum_cons, List.sum_nil, Int.add_zero]
theorem tk_b (g : S38 → Int) (l : List S38) (hb : ∀ x ∈ l, bnd (g x)) : ∀ j, j ≤ l.length → -(1000000 * (j : Int)) ≤ tk g l j ∧ tk g l j ≤ 1000000 * (j : Int) := by
  intro j
  induction j with
  | zero => intro _; simp [tk]
  | succ j ih =>
    intro h
    have h1 := ih (by omega)
    have h2 := hb l[j] (List.getElem_mem (show j < l.length by omega))
    unfold bnd at h2
    rw [tk_succ g l (by omega)]
    omega
/-- one number behind a swap -/
def cp (g : S38 → Int) (l : List S38) (i : Nat) : Int := 2 * (tk g l l.length - g (l.getD i z38)) - g (l.getD i z38)
def nc (l : List S38) (i : Nat) : S38 := ⟨cp S38.f0 l i, cp S38.f1 l i, cp S38.f2 l i, cp S38.f3 l i⟩
def swc (l : List S38) (i : Nat) : List S38 := l.set i (nc l i)
/-- the sum of the others so far -/
def os (g : S38 → Int) (l : List S38) (i j : Nat) : Int := tk g l j - (if i < j then g (l.getD i z38) else 0)
theorem gd {l : List S38} {i : Nat} (h : i < l.length) : l.getD i z38 = l[i] := by simp [List.getD_eq_getElem?_getD, List.getElem?_eq_getElem h]
theorem os_self (g : S38 → Int) (l : List S38) {i : Nat} (h : i < l.length) : os g l i (i + 1) = os g l i i := by
  unfold os
  rw [tk_succ g l h, if_pos (by omega), if_neg (by omega), gd h]
  omega
theorem os_other (g : S38 → Int) (l : List S38) {i j : Nat} (h : j < l.length) (hij : j ≠ i) : os g l i (j + 1) = os g l i j + g l[j] := by
  unfold os
  rw [tk_succ g l h]
  by_cases h1 : i < j
  · rw [if_pos h1, if_pos (by omega)]; omega
  · rw [if_neg h1, if_neg (by omega)]; omega
theorem os_b (g : S38 → Int) (l : List S38) (hl : l.length = 4) (hb : ∀ x ∈ l, bnd (g x)) {i : Nat} (hi : i < 4) (j : Nat) (hj : j ≤ 4) : -5000000 ≤ os g l i j ∧ os g l i j ≤ 5000000 := by
  have h1 := tk_b g l hb j (by omega)
  have h2 := hb (l.getD i z38) (by rw [gd (by omega)]; exact List.getElem_mem _)
  unfold bnd at h2
  unfold os
  split <;> omega
theorem ciSwap_l (l : List S38) (hl : l.length = 4) (hb : ∀ x ∈ l, bndC x) {i : Nat} (hi : i < 4) (d : Nat) : ∀ j, j + d = 4 →
    Ev (fun k => spec_ciSwap.l0 k l (i : Int) l l 4 (j : Int) (os S38.f0 l i j) (os S38.f1 l i j) (os S38.f2 l i j) (os S38.f3 l i j)) (swc l i) := by
  have b0 : ∀ x ∈ l, bnd (S38.f0 x) := fun x hx => (hb x hx).1
  have b1 : ∀ x ∈ l, bnd (S38.f1 x) := fun x hx => (hb x hx).2.1
  have b2 : ∀ x ∈ l, bnd (S38.f2 x) := fun x hx => (hb x hx).2.2.1
  have b3 : ∀ x ∈ l, bnd (S38.f3 x) := fun x hx => (hb x hx).2.2.2
  induction d with
  | zero =>
    intro j hj
    obtain rfl : j = 4 := by omega
    refine Ev.step (f := fun _ => some (swc l i)) (fun k => ?_) (Ev.now _)
    have q0 := os_b S38.f0 l hl b0 hi 4 (by omega)
    have q1 := os_b S38.f1 l hl b1 hi 4 (by omega)
    have q2 := os_b S38.f2 l hl b2 hi 4 (by omega)
    have q3 := os_b S38.f3 l hl b3 hi 4 (by omega)
    obtain ⟨c0, c1, c2, c3⟩ := hb (l.getD i z38) (by rw [gd (by omega)]; exact List.getElem_mem _)
    unfold bnd at c0 c1 c2 c3
    have hr : rd_T38 l (i : Int) = l.getD i z38 := by rw [rdC_at (by omega), gd (by omega)]
    simp only [spec_ciSwap.l0, hl]
    rw [if_neg (by omega), if_pos (by omega), if_pos (by omega), if_pos (by omega), hr]
    rw [wrap_id (x := 2 * os S38.f0 l i 4) (by omega) (by omega), wrap_id (x := 2 * os S38.f1 l i 4) (by omega) (by omega), wrap_id (x := 2 * os S38.f2 l i 4) (by omega) (by omega), wrap_id (x := 2 * os S38.f3 l i 4) (by omega) (by omega)]
    rw [wrap_id (x := 2 * os S38.f0 l i 4 - (l.getD i z38).f0) (by omega) (by omega), wrap_id (x := 2 * os S38.f1 l i 4 - (l.getD i z38).f1) (by omega) (by omega), wrap_id (x := 2 * os S38.f2 l i 4 - (l.getD i z38).f2) (by omega) (by omega), wrap_id (x := 2 * os S38.f3 l i 4 - (l.getD i z38).f3) (by omega) (by omega)]
    unfold swc nc cp os
    rw [hl, if_pos hi, if_pos hi, if_pos hi, if_pos hi]
    simp only [Int.toNat_natCast]
  | succ d ih =>
    intro j hj
    have hjl : j < l.length := by omega
    have h := ih (j + 1) (by omega)
    by_cases hij : j = i
    · subst hij
      rw [os_self _ _ hjl, os_self _ _ hjl, os_self _ _ hjl, os_self _ _ hjl] at h
      refine Ev.step (f := fun k => spec_ciSwap.l0 k l (j : Int) l l 4 ((j + 1 : Nat) : Int) (os S38.f0 l j j) (os S38.f1 l j j) (os S38.f2 l j j) (os S38.f3 l j j)) (fun k => ?_) h
      simp only [spec_ciSwap.l0]
      rw [if_pos (by omega), if_pos (by omega), if_pos (by omega), if_pos trivial, wrap_id (by omega) (by omega), show ((j : Int) + 1) = ((j + 1 : Nat) : Int) by omega]
    · have q0 := os_b S38.f0 l hl b0 hi j (by omega)
      have q1 := os_b S38.f1 l hl b1 hi j (by omega)
      have q2 := os_b S38.f2 l hl b2 hi j (by omega)
      have q3 := os_b S38.f3 l hl b3 hi j (by omega)
      obtain ⟨c0, c1, c2, c3⟩ := hb l[j] (List.getElem_mem _)
      unfold bnd at c0 c1 c2 c3
      rw [os_other _ _ hjl hij, os_other _ _ hjl hij, os_other _ _ hjl hij, os_other _ _ hjl hij] at h
      refine Ev.step (f := fun k => spec_ciSwap.l0 k l (i : Int) l l 4 ((j + 1 : Nat) : Int) (os S38.f0 l i j + l[j].f0) (os S38.f1 l i j + l[j].f1) (os S38.f2 l i j + l[j].f2) (os S38.f3 l i j + l[j].f3)) (fun k => ?_) h
      simp only [spec_ciSwap.l0]
      rw [if_pos (by omega), if_pos (by omega), if_pos (by omega), if_neg (by omega), rdC_at hjl, wrap_id (x := (j : Int) + 1) (by omega) (by omega), wrap_id (x := os S38.f0 l i j + l[j].f0) (by omega) (by omega), wrap_id (x := os S38.f1 l i j + l[j].f1) (by omega) (by omega), wrap_id (x := os S38.f2 l i j + l[j].f2) (by omega) (by omega), wrap_id (x := os S38.f3 l i j + l[j].f3) (by omega) (by omega), show ((j : Int) + 1) = ((j + 1 : Nat) : Int) by omega]
theorem ciSwap_ev (l : List S38) (hl : l.length = 4) (hb : ∀ x ∈ l, bndC x) {i : Nat} (hi : i < 4) : Ev (fun k => spec_ciSwap.f k l (i : Int)) (swc l i) := by
  have h := ciSwap_l l hl hb hi 4 0 (by omega)
  have z : ∀ g : S38 → Int, os g l i 0 = 0 := fun g => by unfold os tk; rw [if_neg (by omega)]; simp
  rw [z, z, z, z] at h
  unfold spec_ciSwap.f
  simp only [Option.bind_some, List.length_nil, List.nil_append, hl, if_pos (show 0 + 4 < 4398046511104 by decide)]
  exact h
theorem swapC_l (l : List S38) (hl : l.length = 4) (hb : ∀ x ∈ l, bndC x) {i : Nat} (hi : i < 4) (d : Nat) : ∀ j, j + d = 4 →
    Ev (fun k => impl_swapCircle.l0 k (i : Int) l l 4 (j : Int) (-3 * (l.getD i z38).f0 + 2 * tk S38.f0 l j) (-3 * (l.getD i z38).f1 + 2 * tk S38.f1 l j) (-3 * (l.getD i z38).f2 + 2 * tk S38.f2 l j) (-3 * (l.getD i z38).f3 + 2 * tk S38.f3 l j)) (swc l i, inC (nc l i)) := by
  have b0 : ∀ x ∈ l, bnd (S38.f0 x) := fun x hx => (hb x hx).1
  have b1 : ∀ x ∈ l, bnd (S38.f1 x) := fun x hx => (hb x hx).2.1
  have b2 : ∀ x ∈ l, bnd (S38.f2 x) := fun x hx => (hb x hx).2.2.1
  have b3 : ∀ x ∈ l, bnd (S38.f3 x) := fun x hx => (hb x hx).2.2.2
  obtain ⟨e0, e1, e2, e3⟩ := hb (l.getD i z38) (by rw [gd (by omega)]; exact List.getElem_mem _)
  unfold bnd at e0 e1 e2 e3
  induction d with
  | zero =>
    intro j hj
    obtain rfl : j = 4 := by omega
    refine Ev.step (f := fun _ => some (swc l i, inC (nc l i))) (fun k => ?_) (Ev.now _)
    simp only [impl_swapCircle.l0, hl]
    rw [if_neg (by omega), if_pos (by omega), if_pos (by omega)]
    have e : (⟨-3 * (l.getD i z38).f0 + 2 * tk S38.f0 l 4, -3 * (l.getD i z38).f1 + 2 * tk S38.f1 l 4, -3 * (l.getD i z38).f2 + 2 * tk S38.f2 l 4, -3 * (l.getD i z38).f3 + 2 * tk S38.f3 l 4⟩ : S38) = nc l i := by
      unfold nc cp
      rw [hl]
      congr 1 <;> omega
    have e' : ([-3 * (l.getD i z38).f0 + 2 * tk S38.f0 l 4, -3 * (l.getD i z38).f1 + 2 * tk S38.f1 l 4, -3 * (l.getD i z38).f2 + 2 * tk S38.f2 l 4, -3 * (l.getD i z38).f3 + 2 * tk S38.f3 l 4] : List Int).all (inB (-1000000) 1000000) = inC (nc l i) := by rw [← e]; rfl
    unfold impl_Circle_numbers.f impl_allWithin.f
    simp only [Option.bind_some, Int.toNat_natCast]
    rw [e', e]
    rfl
  | succ d ih =>
    intro j hj
    have hjl : j < l.length := by omega
    have h := ih (j + 1) (by omega)
    have q0 := tk_b S38.f0 l b0 j (by omega)
    have q1 := tk_b S38.f1 l b1 j (by omega)
    have q2 := tk_b S38.f2 l b2 j (by omega)
    have q3 := tk_b S38.f3 l b3 j (by omega)
    obtain ⟨c0, c1, c2, c3⟩ := hb l[j] (List.getElem_mem _)
    unfold bnd at c0 c1 c2 c3
    rw [tk_succ S38.f0 l hjl, tk_succ S38.f1 l hjl, tk_succ S38.f2 l hjl, tk_succ S38.f3 l hjl] at h
    refine Ev.step (f := fun k => impl_swapCircle.l0 k (i : Int) l l 4 ((j + 1 : Nat) : Int) (-3 * (l.getD i z38).f0 + 2 * (tk S38.f0 l j + l[j].f0)) (-3 * (l.getD i z38).f1 + 2 * (tk S38.f1 l j + l[j].f1)) (-3 * (l.getD i z38).f2 + 2 * (tk S38.f2 l j + l[j].f2)) (-3 * (l.getD i z38).f3 + 2 * (tk S38.f3 l j + l[j].f3))) (fun k => ?_) h
    simp only [impl_swapCircle.l0]
    rw [if_pos (by omega), if_pos (by omega), if_pos (by omega), rdC_at hjl, wrap_id (x := (j : Int) + 1) (by omega) (by omega), wrap_id (x := 2 * l[j].f0) (by omega) (by omega), wrap_id (x := 2 * l[j].f1) (by omega) (by omega), wrap_id (x := 2 * l[j].f2) (by omega) (by omega), wrap_id (x := 2 * l[j].f3) (by omega) (by omega)]
    rw [wrap_id (x := -3 * (l.getD i z38).f0 + 2 * tk S38.f0 l j + 2 * l[j].f0) (by omega) (by omega), wrap_id (x := -3 * (l.getD i z38).f1 + 2 * tk S38.f1 l j + 2 * l[j].f1) (by omega) (by omega), wrap_id (x := -3 * (l.getD i z38).f2 + 2 * tk S38.f2 l j + 2 * l[j].f2) (by omega) (by omega), wrap_id (x := -3 * (l.getD i z38).f3 + 2 * tk S38.f3 l j + 2 * l[j].f3) (by omega) (by omega)]
    rw [show -3 * (l.getD i z38).f0 + 2 * tk S38.f0 l j + 2 * l[j].f0 = -3 * (l.getD i z38).f0 + 2 * (tk S38.f0 l j + l[j].f0) by omega, show -3 * (l.getD i z38).f1 + 2 * tk S38.f1 l j + 2 * l[j].f1 = -3 * (l.getD i z38).f1 + 2 * (tk S38.f1 l j + l[j].f1) by omega, show -3 * (l.getD i z38).f2 + 2 * tk S38.f2 l j + 2 * l[j].f2 = -3 * (l.getD i z38).f2 + 2 * (tk S38.f2 l j + l[j].f2) by omega, show -3 * (l.getD i z38).f3 + 2 * tk S38.f3 l j + 2 * l[j].f3 = -3 * (l.getD i z38).f3 + 2 * (tk S38.f3 l j + l[j].f3) by omega, show ((j : Int) + 1) = ((j + 1 : Nat) : Int) by omega]
theorem swapC_ev (l : List S38) (hl : l.length = 4) (hb : ∀ x ∈ l, bndC x) {i : Nat} (hi : i < 4) : Ev (fun k => impl_swapCircle.f k l (i : Int)) (swc l i, inC (nc l i)) := by
  have h := swapC_l l hl hb hi 4 0 (by omega)
  have z : ∀ g : S38 → Int, tk g l 0 = 0 := fun g => by unfold tk; simp
  simp only [z, Int.mul_zero, Int.add_zero] at h
  obtain ⟨e0, e1, e2, e3⟩ := hb (l.getD i z38) (by rw [gd (by omega)]; exact List.getElem_mem _)
  unfold bnd at e0 e1 e2 e3
  have hr : rd_T38 l (i : Int) = l.getD i z38 := by rw [rdC_at (by omega), gd (by omega)]
  unfold impl_swapCircle.f impl_Circle.f
  simp only [hl, if_pos (show (4 : Nat) < 4398046511104 by decide), Option.bind_some, hr]
  simp only [if_pos (show 0 ≤ (i : Int) by omega), if_pos (show (i : Int) < ((4 : Nat) : Int) by omega)]
  rw [wrap_id (x := -3 * (l.getD i z38).f0) (by omega) (by omega), wrap_id (x := -3 * (l.getD i z38).f1) (by omega) (by omega), wrap_id (x := -3 * (l.getD i z38).f2) (by omega) (by omega), wrap_id (x := -3 * (l.getD i z38).f3) (by omega) (by omega)]
  exact h
def qf (x : S38) : Int := x.f2 * x.f2 + x.f3 * x.f3 - x.f0 * x.f1
def mix (x y z w : S38) : S38 := ⟨2 * (y.f0 + z.f0 + w.f0) - x.f0, 2 * (y.f1 + z.f1 + w.f1) - x.f1, 2 * (y.f2 + z.f2 + w.f2) - x.f2, 2 * (y.f3 + z.f3 + w.f3) - x.f3⟩
theorem tw_lin (x y z w u : S38) : twi (mix x y z w) u = 2 * (twi y u + twi z u + twi w u) - twi x u := by
  unfold twi mix
  grind
theorem tw_self (y : S38) : twi y y = 2 * qf y := by
  unfold twi qf
  grind
theorem mix_ok {x y z w : S38} (hx : qf x = 1) (hy : qf y = 1) (hz : qf z = 1) (hw : qf w = 1) (xy : twi x y = -2) (xz : twi x z = -2) (xw : twi x w = -2) (yz : twi y z = -2) (yw : twi y w = -2) (zw : twi z w = -2) :
    qf (mix x y z w) = 1 ∧ twi (mix x y z w) y = -2 ∧ twi (mix x y z w) z = -2 ∧ twi (mix x y z w) w = -2 := by
  have sx := tw_self x
  have sy := tw_self y
  have sz := tw_self z
  have sw := tw_self w
  have sn := tw_self (mix x y z w)
  have ny := tw_lin x y z w y
  have nz := tw_lin x y z w z
  have nw := tw_lin x y z w w
  have nx := tw_lin x y z w x
  have nn := tw_lin x y z w (mix x y z w)
  rw [twi_comm z y, twi_comm w y] at ny
  rw [twi_comm w z] at nz
  rw [twi_comm y x, twi_comm z x, twi_comm w x] at nx
  rw [twi_comm y (mix x y z w), twi_comm z (mix x y z w), twi_comm w (mix x y z w), twi_comm x (mix x y z w)] at nn
  omega
theorem cfgB_iff {l : List S38} : cfgB l = true ↔ ∃ a b c d, l = [a, b, c, d] ∧ (isC a = true ∧ isC b = true ∧ isC c = true ∧ isC d = true) ∧ twi a b = -2 ∧ twi a c = -2 ∧ twi a d = -2 ∧ twi b c = -2 ∧ twi b d = -2 ∧ twi c d = -2 := by
  constructor
  · intro h
    unfold cfgB at h
    simp only [Bool.and_eq_true] at h
    obtain ⟨a, b, c, d, rfl, h4⟩ := (fourB_iff l).1 h.1
    have h2 := h.2
    simp only [pairs4, Bool.and_eq_true, decide_eq_true_eq] at h2
    obtain ⟨p1, p2, p3, p4, p5, p6⟩ := h2
    rw [twi_comm] at p1 p2 p3 p4 p5 p6
    exact ⟨a, b, c, d, rfl, h4, p1, p2, p4, p3, p5, p6⟩
  · rintro ⟨a, b, c, d, rfl, h4, p1, p2, p4, p3, p5, p6⟩
    unfold cfgB
    rw [(fourB_iff _).2 ⟨a, b, c, d, rfl, h4⟩]
    rw [twi_comm] at p1 p2 p3 p4 p5 p6
    simp [pairs4, p1, p2, p3, p4, p5, p6]
theorem isC_q {x : S38} (h : isC x = true) : qf x = 1 := ((isC_iff x).1 h).2
theorem isC_mix {x : S38} (h : qf x = 1) : isC x = inC x := by
  rw [Bool.eq_iff_iff, isC_iff, inC_iff]
  exact ⟨fun q => q.1, fun q => ⟨q, h⟩⟩
theorem tk4 (g : S38 → Int) (a b c d : S38) : tk g [a, b, c, d] 4 = g a + g b + g c + g d := by
  simp [tk]
  omega
theorem nc0 (a b c d : S38) : nc [a, b, c, d] 0 = mix a b c d := by
  unfold nc cp mix
  simp only [List.length_cons, List.length_nil, Nat.zero_add, Nat.reduceAdd, tk4, List.getD_cons_zero, S38.mk.injEq]
  omega
theorem nc1 (a b c d : S38) : nc [a, b, c, d] 1 = mix b a c d := by
  unfold nc cp mix
  simp only [List.length_cons, List.length_nil, Nat.zero_add, Nat.reduceAdd, tk4, List.getD_cons_succ, List.getD_cons_zero, S38.mk.injEq]
  omega
theorem nc2 (a b c d : S38) : nc [a, b, c, d] 2 = mix c a b d := by
  unfold nc cp mix
  simp only [List.length_cons, List.length_nil, Nat.zero_add, Nat.reduceAdd, tk4, List.getD_cons_succ, List.getD_cons_zero, S38.mk.injEq]
  omega
theorem nc3 (a b c d : S38) : nc [a, b, c, d] 3 = mix d a b c := by
  unfold nc cp mix
  simp only [List.length_cons, List.length_nil, Nat.zero_add, Nat.reduceAdd, tk4, List.getD_cons_succ, List.getD_cons_zero, S38.mk.injEq]
  omega
theorem cfg_swc {l : List S38} (h : cfgB l = true) {i : Nat} (hi : i < 4) : isC (nc l i) = inC (nc l i) ∧ (inC (nc l i) = true → cfgB (swc l i) = true) := by
  obtain ⟨a, b, c, d, rfl, ⟨ha, hb, hc, hd⟩, ab, ac, ad, bc, bd, cd⟩ := cfgB_iff.1 h
  have qa := isC_q ha
  have qb := isC_q hb
  have qc := isC_q hc
  have qd := isC_q hd
  unfold swc
  match i, hi with
  | 0, _ =>
    rw [nc0]
    obtain ⟨m0, m1, m2, m3⟩ := mix_ok qa qb qc qd ab ac ad bc bd cd
    exact ⟨isC_mix m0, fun q => cfgB_iff.2 ⟨_, b, c, d, rfl, ⟨(isC_mix m0).trans q, hb, hc, hd⟩, m1, m2, m3, bc, bd, cd⟩⟩
  | 1, _ =>
    rw [nc1]
    obtain ⟨m0, m1, m2, m3⟩ := mix_ok qb qa qc qd (by rw [twi_comm]; exact ab) bc bd ac ad cd
    exact ⟨isC_mix m0, fun q => cfgB_iff.2 ⟨a, _, c, d, rfl, ⟨ha, (isC_mix m0).trans q, hc, hd⟩, by rw [twi_comm]; exact m1, ac, ad, m2, m3, cd⟩⟩
  | 2, _ =>
    rw [nc2]
    obtain ⟨m0, m1, m2, m3⟩ := mix_ok qc qa qb qd (by rw [twi_comm]; exact ac) (by rw [twi_comm]; exact bc) cd ab ad bd
    exact ⟨isC_mix m0, fun q => cfgB_iff.2 ⟨a, b, _, d, rfl, ⟨ha, hb, (isC_mix m0).trans q, hd⟩, ab, by rw [twi_comm]; exact m1, ad, by rw [twi_comm]; exact m2, bd, m3⟩⟩
  | 3, _ =>
    rw [nc3]
    obtain ⟨m0, m1, m2, m3⟩ := mix_ok qd qa qb qc (by rw [twi_comm]; exact ad) (by rw [twi_comm]; exact bd) (by rw [twi_comm]; exact cd) ab ac bc
    exact ⟨isC_mix m0, fun q => cfgB_iff.2 ⟨a, b, c, _, rfl, ⟨ha, hb, hc, (isC_mix m0).trans q⟩, ab, ac, by rw [twi_comm]; exact m1, bc, by rw [twi_comm]; exact m2, by rw [twi_comm]; exact m3⟩⟩
  | (i + 4), h => omega
theorem cfg_len {l : List S38} (h : cfgB l = true) : l.length = 4 := by
  obtain ⟨a, b, c, d, rfl, _⟩ := cfgB_iff.1 h
  rfl
theorem cfg_bnd {l : List S38} (h : cfgB l = true) : ∀ x ∈ l, bndC x := by
  obtain ⟨a, b, c, d, rfl, ⟨ha, hb, hc, hd⟩, _⟩ := cfgB_iff.1 h
  intro x hx
  simp at hx
  rcases hx with rfl | rfl | rfl | rfl
  · exact isC_bnd ha
  · exact isC_bnd hb
  · exact isC_bnd hc
  · exact isC_bnd hd
theorem swc_length (l : List S38) (i : Nat) : (swc l i).length = l.length := by simp [swc]
theorem swc_get {l : List S38} {i : Nat} (h : i < l.length) : rd_T38 (swc l i) (i : Int) = nc l i := by
  rw [rdC_at (by rw [swc_length]; exact h)]
  simp [swc]
def runC (l : List S38) : List Int → List S38 × Bool
  | [] => (l, true)
  | i :: w => if inC (nc l i.toNat) = true then runC (swc l i.toNat) w else ([], false)
theorem runC_len (w : List Int) : ∀ l : List S38, l.length ≤ 4 → (runC l w).1.length ≤ 4 := by
  induction w with
  | nil => intro l h; exact h
  | cons i w ih =>
    intro l h
    simp only [runC]
    split
    · exact ih _ (by rw [swc_length]; exact h)
    · simp
theorem in03 {w : List Int} (h : w.all (inB 0 3) = true) {j : Nat} (hj : j < w.length) : 0 ≤ w[j] ∧ w[j] ≤ 3 := by
  have := List.all_eq_true.1 h w[j] (List.getElem_mem hj)
  exact inB_iff.1 this
theorem folS_l (w : List Int) (hw : w.all (inB 0 3) = true) (hl : w.length ≤ 1000) (d : Nat) : ∀ (j : Nat) (q : List S38), j + d = w.length → cfgB q = true → Ev (fun k => spec_FollowCircles.l0 k q w (w.length : Int) (j : Int)) (runC q (w.drop j)) := by
  induction d with
  | zero =>
    intro j q hj hq
    rw [List.drop_of_length_le (by omega)]
    refine Ev.step (f := fun _ => some (q, true)) (fun k => ?_) (Ev.now _)
    simp only [spec_FollowCircles.l0]
    rw [if_neg (by omega)]
  | succ d ih =>
    intro j q hj hq
    have hjl : j < w.length := by omega
    have hb := in03 hw hjl
    obtain ⟨i, hi⟩ : ∃ i : Nat, w[j] = i := ⟨w[j].toNat, by omega⟩
    have hi4 : i < 4 := by omega
    have h4 := cfg_len hq
    have hs := ciSwap_ev q h4 (cfg_bnd hq) hi4
    have hg := ciGood_ev (nc q i).f0 (nc q i).f1 (nc q i).f2 (nc q i).f3
    obtain ⟨c1, c2⟩ := cfg_swc hq hi4
    rw [show (⟨(nc q i).f0, (nc q i).f1, (nc q i).f2, (nc q i).f3⟩ : S38) = nc q i from rfl, c1] at hg
    rw [List.drop_eq_getElem_cons hjl, hi]
    simp only [runC, Int.toNat_natCast]
    refine Ev.step (f := fun k => (spec_ciSwap.f k q (i : Int)).bind fun t692 => (if 0 ≤ (i : Int) then (if (i : Int) < (t692.length : Int) then ((spec_ciGood.f k ((rd_T38 t692 (i : Int)).f0) ((rd_T38 t692 (i : Int)).f1) ((rd_T38 t692 (i : Int)).f2) ((rd_T38 t692 (i : Int)).f3)).bind fun t696 => (if t696 = true then (spec_FollowCircles.l0 k t692 w (w.length : Int) ((j + 1 : Nat) : Int)) else (some (([] : List (S38)), false)))) else (none)) else (none))) (fun k => ?_) ?_
    · simp only [spec_FollowCircles.l0]
      rw [if_pos (by omega), if_pos (by omega), if_pos (by omega), rdi_at hjl, hi, wrap_id (by omega) (by omega), show ((j : Int) + 1) = ((j + 1 : Nat) : Int) by omega]
    · refine Ev.bind hs ?_
      simp only [swc_length, h4, if_pos (show 0 ≤ (i : Int) by omega), if_pos (show (i : Int) < ((4 : Nat) : Int) by omega), swc_get (show i < q.length by omega)]
      refine Ev.bind hg ?_
      cases hqq : inC (nc q i) with
      | true => simp only [if_true]; exact ih (j + 1) (swc q i) (by omega) (c2 hqq)
      | false => simp only [Bool.false_eq_true, if_false]; exact Ev.now _
theorem folI_l (w : List Int) (hw : w.all (inB 0 3) = true) (hl : w.length ≤ 1000) (d : Nat) : ∀ (j : Nat) (q : List S38), j + d = w.length → cfgB q = true → Ev (fun k => impl_FollowCircles.l0 k q w (w.length : Int) (j : Int)) (runC q (w.drop j)) := by
  induction d with
  | zero =>
    intro j q hj hq
    rw [List.drop_of_length_le (by omega)]
    refine Ev.step (f := fun _ => some (q, true)) (fun k => ?_) (Ev.now _)
    simp only [impl_FollowCircles.l0]
    rw [if_neg (by omega)]
  | succ d ih =>
    intro j q hj hq
    have hjl : j < w.length := by omega
    have hb := in03 hw hjl
    obtain ⟨i, hi⟩ : ∃ i : Nat, w[j] = i := ⟨w[j].toNat, by omega⟩
    have hi4 : i < 4 := by omega
    have h4 := cfg_len hq
    have hs := swapC_ev q h4 (cfg_bnd hq) hi4
    obtain ⟨c1, c2⟩ := cfg_swc hq hi4
    rw [List.drop_eq_getElem_cons hjl, hi]
    simp only [runC, Int.toNat_natCast]
    refine Ev.step (f := fun k => (impl_swapCircle.f k q (i : Int)).bind fun bt => if bt.2 = true then impl_FollowCircles.l0 k bt.1 w (w.length : Int) ((j + 1 : Nat) : Int) else some ([], false)) (fun k => ?_) ?_
    · simp only [impl_FollowCircles.l0]
      rw [if_pos (by omega), if_pos (by omega), if_pos (by omega), rdi_at hjl, hi, wrap_id (by omega) (by omega), show ((j : Int) + 1) = ((j + 1 : Nat) : Int) by omega]
    · refine Ev.bind hs ?_
      cases hqq : inC (nc q i) with
      | true => simp only [if_true]; exact ih (j + 1) (swc q i) (by omega) (c2 hqq)
      | false => simp only [Bool.false_eq_true, if_false]; exact Ev.now _
def folR (l : List S38) (w : List Int) : List S38 × Bool := if cfgB l = true ∧ w.length ≤ 40 ∧ w.all (inB 0 3) = true then runC l w else ([], false)
theorem folR_len (l : List S38) (w : List Int) : (folR l w).1.length ≤ 4 := by
  unfold folR
  split
  · rename_i h
    exact runC_len w l (by have := cfg_len h.1; omega)
  · simp
theorem folI_ev (l : List S38) (w : List Int) : Ev (fun k => impl_FollowCircles.f k l w) (folR l w) := by
  have hu := isConfig_ev l
  have ji : Ev (fun k => impl_FollowCircles.j0 k l w true) (([] : List S38), false) := Ev.step (fun _ => impl_FollowCircles.j0.eq_2 ..) (by simp only [if_true]; exact Ev.now _)
  unfold impl_FollowCircles.f impl_allWithin.f folR
  refine Ev.bind hu ?_
  cases hq : cfgB l with
  | false => simp only [Bool.false_eq_true, if_false, false_and]; exact ji
  | true =>
    simp only [if_true, true_and]
    by_cases hw : (w.length : Int) > 40
    · simp only [if_pos hw, if_neg (show ¬ (w.length ≤ 40 ∧ w.all (inB 0 3) = true) by omega)]
      exact ji
    · simp only [if_neg hw, Option.bind_some]
      cases hall : w.all (inB 0 3) with
      | false => simp only [Bool.false_eq_true, and_false, if_false, Bool.not_false]; exact ji
      | true =>
        simp only [and_true, if_pos (show w.length ≤ 40 by omega), Bool.not_true]
        have ei := folI_l w hall (by omega) w.length 0 l (by omega) hq
        rw [List.drop_zero] at ei
        refine Ev.step (fun _ => impl_FollowCircles.j0.eq_2 ..) ?_
        unfold impl_Circle.f
        simp only [Bool.false_eq_true, if_false, cfg_len hq, if_pos (show 4 < 4398046511104 by decide), Option.bind_some]
        exact ei
theorem folS_ev (l : List S38) (w : List Int) (hlw : (w.length : Int) ≤ 9223372036854775806) : Ev (fun k => spec_FollowCircles.f k l w) (folR l w) := by
  have hu := ciConfig_ev l
  have js : Ev (fun k => spec_FollowCircles.j0 k l w true) (([] : List S38), false) := Ev.step (fun _ => spec_FollowCircles.j0.eq_2 ..) (by simp only [if_true]; exact Ev.now _)
  unfold spec_FollowCircles.f folR
  refine Ev.bind hu ?_
  cases hq : cfgB l with
  | false => simp only [Bool.false_eq_true, if_false, false_and]; exact js
  | true =>
    simp only [if_true, true_and]
    by_cases hw : (w.length : Int) > 40
    · simp only [if_pos hw, if_neg (show ¬ (w.length ≤ 40 ∧ w.all (inB 0 3) = true) by omega)]
      exact js
    · simp only [if_neg hw]
      have ha := l1All_ev 0 3 w hlw
      cases hall : w.all (inB 0 3) with
      | false =>
        rw [hall] at ha
        simp only [Bool.false_eq_true, and_false, if_false]
        exact Ev.bind ha js
      | true =>
        rw [hall] at ha
        simp only [and_true, if_pos (show w.length ≤ 40 by omega)]
        have ei := folS_l w hall (by omega) w.length 0 l (by omega) hq
        rw [List.drop_zero] at ei
        refine Ev.bind ha ?_
        refine Ev.step (fun _ => spec_FollowCircles.j0.eq_2 ..) ?_
        simp only [Bool.not_true, Bool.false_eq_true, if_false, Option.bind_some, List.length_nil, List.nil_append, cfg_len hq, if_pos (show 0 + 4 < 4398046511104 by decide)]
        exact ei
theorem swapS_ev (l : List S38) (i : Int) : Ev (fun k => spec_SwapCircle.f k l i) (folR l [i]) := by
  have hu := ciConfig_ev l
  have js : Ev (fun k => spec_SwapCircle.j0 k l i true) (([] : List S38), false) := Ev.step (fun _ => spec_SwapCircle.j0.eq_2 ..) (by simp only [if_true]; exact Ev.now _)
  unfold spec_SwapCircle.f folR
  simp only [l1In_f, Option.bind_some]
  refine Ev.bind hu ?_
  cases hq : cfgB l with
  | false => simp only [Bool.false_eq_true, if_false, false_and]; exact js
  | true =>
    simp only [if_true, true_and, List.length_cons, List.length_nil, List.all_cons, List.all_nil, Bool.and_true, Nat.zero_add, show (1 : Nat) ≤ 40 from by decide]
    cases hi : inB 0 3 i with
    | false => simp only [Bool.not_false, Bool.false_eq_true, if_false]; exact js
    | true =>
      obtain ⟨h0, h3⟩ := inB_iff.1 hi
      obtain ⟨j, rfl⟩ : ∃ j : Nat, i = j := ⟨i.toNat, by omega⟩
      have hj : j < 4 := by omega
      have h4 := cfg_len hq
      have hs := ciSwap_ev l h4 (cfg_bnd hq) hj
      have hg := ciGood_ev (nc l j).f0 (nc l j).f1 (nc l j).f2 (nc l j).f3
      obtain ⟨c1, c2⟩ := cfg_swc hq hj
      rw [show (⟨(nc l j).f0, (nc l j).f1, (nc l j).f2, (nc l j).f3⟩ : S38) = nc l j from rfl, c1] at hg
      simp only [Bool.not_true, if_true, runC, Int.toNat_natCast]
      refine Ev.step (fun _ => spec_SwapCircle.j0.eq_2 ..) ?_
      simp only [Bool.false_eq_true, if_false]
      refine Ev.bind hs ?_
      simp only [swc_length, h4, if_pos (show 0 ≤ (j : Int) by omega), if_pos (show (j : Int) < ((4 : Nat) : Int) by omega), swc_get (show j < l.length by omega)]
      refine Ev.bind hg ?_
      by_cases hqq : inC (nc l j) = true
      · simp only [if_pos hqq]
        exact Ev.now _
      · simp only [if_neg hqq]
        exact Ev.now _
theorem swapI_ev (l : List S38) (i : Int) : Ev (fun k => impl_SwapCircle.f k l i) (folR l [i]) := by
  unfold impl_SwapCircle.f impl_isIndex.f
  simp only [within_f, Option.bind_some]
  cases hi : inB 0 3 i with
  | true =>
    simp only [if_true]
    exact Ev.bind (folI_ev l [i]) (Ev.now _)
  | false =>
    simp only [Bool.false_eq_true, if_false]
    have e : folR l [i] = ([], false) := by
      unfold folR
      rw [if_neg (by simp [hi])]
    rw [e]
    exact Ev.now _
theorem curvS_l (l : List S38) (hl : l.length ≤ 100000) (d : Nat) : ∀ (i : Nat) (x : List Int), i + d = l.length → x.length ≤ i → Ev (fun k => spec_ciCurvatures.l0 k x l (l.length : Int) (i : Int)) (x ++ (l.drop i).map S38.f1) := by
  induction d with
  | zero =>
    intro i x hi hx
    rw [List.drop_of_length_le (by omega)]
    refine Ev.step (f := fun _ => some x) (fun k => ?_) (by simp only [List.map_nil, List.append_nil]; exact Ev.now _)
    simp only [spec_ciCurvatures.l0]
    rw [if_neg (by omega)]
  | succ d ih =>
    intro i x hi hx
    have hil : i < l.length := by omega
    rw [List.drop_eq_getElem_cons hil]
    refine Ev.step (f := fun k => spec_ciCurvatures.l0 k (x ++ [l[i].f1]) l (l.length : Int) ((i + 1 : Nat) : Int)) (fun k => ?_) (by
      have := ih (i + 1) (x ++ [l[i].f1]) (by omega) (by simp; omega)
      rw [List.append_assoc] at this
      exact this)
    simp only [spec_ciCurvatures.l0]
    rw [if_pos (by omega), if_pos (by omega), if_pos (by omega), if_pos (by omega), rdC_at hil, wrap_id (by omega) (by omega), show ((i : Int) + 1) = ((i + 1 : Nat) : Int) by omega]
theorem curvI_l (l : List S38) (hl : l.length ≤ 100000) (d : Nat) : ∀ (i : Nat) (x : List Int), i + d = l.length → x.length ≤ i → Ev (fun k => impl_curvatures.l0 k x l (l.length : Int) (i : Int)) (x ++ (l.drop i).map S38.f1) := by
  induction d with
  | zero =>
    intro i x hi hx
    rw [List.drop_of_length_le (by omega)]
    refine Ev.step (f := fun _ => some x) (fun k => ?_) (by simp only [List.map_nil, List.append_nil]; exact Ev.now _)
    simp only [impl_curvatures.l0]
    rw [if_neg (by omega)]
  | succ d ih =>
    intro i x hi hx
    have hil : i < l.length := by omega
    rw [List.drop_eq_getElem_cons hil]
    refine Ev.step (f := fun k => impl_curvatures.l0 k (x ++ [l[i].f1]) l (l.length : Int) ((i + 1 : Nat) : Int)) (fun k => ?_) (by
      have := ih (i + 1) (x ++ [l[i].f1]) (by omega) (by simp; omega)
      rw [List.append_assoc] at this
      exact this)
    simp only [impl_curvatures.l0]
    rw [if_pos (by omega), if_pos (by omega), if_pos (by omega), if_pos (by omega), rdC_at hil, wrap_id (by omega) (by omega), show ((i : Int) + 1) = ((i + 1 : Nat) : Int) by omega]
def bq (x : Int) : Prop := -100000 ≤ x ∧ x ≤ 100000
def form4 (a b c d : Int) : Bool := decide (a + b + c + d > 0) && (2 * (a * a + b * b + c * c + d * d) == (a + b + c + d) * (a + b + c + d))
def quadB (l : List Int) : Bool := (decide (l.length = 4) && l.all (inB (-100000) 100000)) && match l with
  | [a, b, c, d] => form4 a b c d
  | _ => false
theorem four {l : List Int} (h : l.length = 4) : ∃ a b c d, l = [a, b, c, d] := by
  match l, h with
  | [a, b, c, d], _ => exact ⟨a, b, c, d, rfl⟩
theorem quadB_iff {l : List Int} : quadB l = true ↔ ∃ a b c d, l = [a, b, c, d] ∧ bq a ∧ bq b ∧ bq c ∧ bq d ∧ a + b + c + d > 0 ∧ 2 * (a * a + b * b + c * c + d * d) = (a + b + c + d) * (a + b + c + d) := by
  constructor
  · intro h
    simp only [quadB, Bool.and_eq_true, decide_eq_true_eq] at h
    obtain ⟨a, b, c, d, rfl⟩ := four h.1.1
    simp only [List.all_cons, List.all_nil, Bool.and_true, Bool.and_eq_true, inB_iff, form4, decide_eq_true_eq, beq_iff_eq] at h
    exact ⟨a, b, c, d, rfl, h.1.2.1, h.1.2.2.1, h.1.2.2.2.1, h.1.2.2.2.2, h.2.1, h.2.2⟩
  · rintro ⟨a, b, c, d, rfl, h0, h1, h2, h3, h4, h5⟩
    simp only [quadB, Bool.and_eq_true, decide_eq_true_eq, List.all_cons, List.all_nil, Bool.and_true, inB_iff, form4, beq_iff_eq, List.length_cons, List.length_nil]
    exact ⟨⟨trivial, h0, h1, h2, h3⟩, h4, h5⟩
theorem r40 (a b c d : Int) : rd [a, b, c, d] 0 = a := Eq.trans rfl rfl
theorem r41 (a b c d : Int) : rd [a, b, c, d] 1 = b := Eq.trans rfl rfl
theorem r42 (a b c d : Int) : rd [a, b, c, d] 2 = c := Eq.trans rfl rfl
theorem r43 (a b c d : Int) : rd [a, b, c, d] 3 = d := Eq.trans rfl rfl
theorem w01 : wrap64 (0 + 1) = 1 := wrap_id (x := 0 + 1) (by decide) (by decide)
theorem w12 : wrap64 (1 + 1) = 2 := wrap_id (x := 1 + 1) (by decide) (by decide)
theorem w23 : wrap64 (2 + 1) = 3 := wrap_id (x := 2 + 1) (by decide) (by decide)
theorem w34 : wrap64 (3 + 1) = 4 := wrap_id (x := 3 + 1) (by decide) (by decide)
theorem i04 : (0 : Int) < 4 := by decide
theorem i14 : (1 : Int) < 4 := by decide
theorem i24 : (2 : Int) < 4 := by decide
theorem i34 : (3 : Int) < 4 := by decide
theorem i44 : ¬ (4 : Int) < 4 := by decide
theorem i00 : (0 : Int) ≤ 0 := by decide
theorem i01 : (0 : Int) ≤ 1 := by decide
theorem i02 : (0 : Int) ≤ 2 := by decide
theorem i03 : (0 : Int) ≤ 3 := by decide
theorem len4 (a b c d : Int) : (([a, b, c, d] : List Int).length : Int) = 4 := rfl
theorem sums {a b c d : Int} (h0 : bq a) (h1 : bq b) (h2 : bq c) (h3 : bq d) :
    (0 ≤ a * a ∧ a * a ≤ 10000000000) ∧ (0 ≤ b * b ∧ b * b ≤ 10000000000) ∧ (0 ≤ c * c ∧ c * c ≤ 10000000000) ∧ (0 ≤ d * d ∧ d * d ≤ 10000000000) ∧ -160000000000 ≤ (a + b + c + d) * (a + b + c + d) ∧ (a + b + c + d) * (a + b + c + d) ≤ 160000000000 := by
  unfold bq at *
  have nn : ∀ x : Int, 0 ≤ x * x := fun x => by
    rcases Int.le_total 0 x with h | h
    · exact Int.mul_nonneg h h
    · have := Int.mul_nonneg (show 0 ≤ -x by omega) (show 0 ≤ -x by omega); grind
  refine ⟨⟨nn a, (sqb (A := 100000) (B := 100000) (by omega) h0.2 (by omega) h0.2).2⟩, ⟨nn b, (sqb (A := 100000) (B := 100000) (by omega) h1.2 (by omega) h1.2).2⟩, ⟨nn c, (sqb (A := 100000) (B := 100000) (by omega) h2.2 (by omega) h2.2).2⟩, ⟨nn d, (sqb (A := 100000) (B := 100000) (by omega) h3.2 (by omega) h3.2).2⟩, ?_⟩
  exact sqb (A := 400000) (B := 400000) (by omega) (by omega) (by omega) (by omega)
theorem sumOf_l {a b c d : Int} (h0 : bq a) (h1 : bq b) (h2 : bq c) (h3 : bq d) (k : Nat) : impl_sumOf.f (k + 5) [a, b, c, d] = some (a + b + c + d) := by
  unfold bq at h0 h1 h2 h3
  unfold impl_sumOf.f
  simp only [impl_sumOf.l0, len4, r40, r41, r42, r43, w01, w12, w23, w34, if_pos i04, if_pos i14, if_pos i24, if_pos i34, if_neg i44, if_pos i00, if_pos i01, if_pos i02, if_pos i03]
  rw [Int.zero_add, wrap_id (x := a) (by omega) (by omega), wrap_id (x := a + b) (by omega) (by omega), wrap_id (x := a + b + c) (by omega) (by omega), wrap_id (x := a + b + c + d) (by omega) (by omega)]
theorem dot_l {a b c d : Int} (h0 : bq a) (h1 : bq b) (h2 : bq c) (h3 : bq d) (k : Nat) : impl_dot.f (k + 5) [a, b, c, d] [a, b, c, d] = some (a * a + b * b + c * c + d * d) := by
  obtain ⟨s0, s1, s2, s3, s4⟩ := sums h0 h1 h2 h3
  unfold impl_dot.f
  simp only [impl_dot.l0, len4, r40, r41, r42, r43, w01, w12, w23, w34, if_pos i04, if_pos i14, if_pos i24, if_pos i34, if_neg i44, if_pos i00, if_pos i01, if_pos i02, if_pos i03]
  rw [Int.zero_add, wrap_id (x := a * a) (by omega) (by omega), wrap_id (x := a * a) (by omega) (by omega), wrap_id (x := b * b) (by omega) (by omega), wrap_id (x := c * c) (by omega) (by omega), wrap_id (x := d * d) (by omega) (by omega), wrap_id (x := a * a + b * b) (by omega) (by omega), wrap_id (x := a * a + b * b + c * c) (by omega) (by omega), wrap_id (x := a * a + b * b + c * c + d * d) (by omega) (by omega)]
theorem isQuad_ev (l : List Int) : Ev (fun k => impl_IsQuad.f k l) (quadB l) := by
  have j0 : ∀ x, Ev (fun k => impl_IsQuad.j0 k x true) false := fun x => Ev.from 0 (fun k hk => by
    obtain ⟨k, rfl⟩ : ∃ m, k = m + 1 := ⟨k - 1, by omega⟩
    simp [impl_IsQuad.j0])
  unfold impl_IsQuad.f impl_allWithin.f quadB
  by_cases h : l.length = 4
  · simp only [if_pos (show (l.length : Int) = 4 by omega), decide_eq_true h, Bool.true_and, Option.bind_some]
    cases hb : l.all (inB (-100000) 100000) with
    | false => simp only [Bool.not_false, Bool.false_and]; exact j0 l
    | true =>
      obtain ⟨a, b, c, d, rfl⟩ := four h
      simp only [List.all_cons, List.all_nil, Bool.and_true, Bool.and_eq_true, inB_iff] at hb
      simp only [Bool.not_true, Bool.true_and]
      refine Ev.from 10 (fun k hk => ?_)
      obtain ⟨k, rfl⟩ : ∃ m, k = m + 6 := ⟨k - 6, by omega⟩
      simp only [impl_IsQuad.j0, Bool.false_eq_true, if_false]
      rw [sumOf_l hb.1 hb.2.1 hb.2.2.1 hb.2.2.2 k, dot_l hb.1 hb.2.1 hb.2.2.1 hb.2.2.2 k]
      obtain ⟨s0, s1, s2, s3, s4⟩ := sums hb.1 hb.2.1 hb.2.2.1 hb.2.2.2
      simp only [Option.bind_some]
      rw [wrap_id (x := 2 * (a * a + b * b + c * c + d * d)) (by omega) (by omega), wrap_id (x := (a + b + c + d) * (a + b + c + d)) (by omega) (by omega)]
      unfold form4
      by_cases h : a + b + c + d > 0
      · rw [if_pos h, decide_eq_true h, Bool.true_and]
      · rw [if_neg h, decide_eq_false h, Bool.false_and]
  · simp only [if_neg (show ¬ (l.length : Int) = 4 by omega), decide_eq_false h, Bool.false_and]
    exact j0 l
theorem sq_nn (x : Int) : 0 ≤ x * x := by
  rcases Int.le_total 0 x with h | h
  · exact Int.mul_nonneg h h
  · have := Int.mul_nonneg (show 0 ≤ -x by omega) (show 0 ≤ -x by omega); grind
theorem swap_pos {x y z : Int} (h1 : x + y > 0) (h2 : 2 * (x * x + z) = (x + y) * (x + y)) (h3 : y * y ≤ 3 * z) : 3 * y - x > 0 := by
  rcases Int.lt_or_le 0 (3 * y - x) with h | h
  · exact h
  · obtain ⟨t, ht⟩ : ∃ t, t = x - 3 * y := ⟨_, rfl⟩
    have hx : x = 3 * y + t := by omega
    have ht0 : 0 ≤ t := by omega
    subst hx
    have key : 8 * (y * y) + 12 * (y * t) + 3 * (t * t) ≤ 0 := by grind
    have n1 := sq_nn y
    have n2 := sq_nn t
    rcases Int.lt_or_le y 0 with hy | hy
    · have n3 := Int.mul_nonneg ht0 (show 0 ≤ 4 * y + t by omega)
      have n4 : 0 < y * y := by
        have := Int.mul_pos (show 0 < -y by omega) (show 0 < -y by omega); grind
      grind
    · have n3 := Int.mul_nonneg hy ht0
      have n5 : y * y = 0 := by omega
      have n6 : t * t = 0 := by omega
      have n7 : y = 0 := by
        rcases Int.mul_eq_zero.1 n5 with h | h <;> exact h
      have n8 : t = 0 := by
        rcases Int.mul_eq_zero.1 n6 with h | h <;> exact h
      omega
theorem three_sq (b c d : Int) : (b + c + d) * (b + c + d) ≤ 3 * (b * b + c * c + d * d) := by
  have h1 := sq_nn (b - c)
  have h2 := sq_nn (b - d)
  have h3 := sq_nn (c - d)
  grind
theorem swap_form {x b c d : Int} (h1 : x + b + c + d > 0) (h2 : 2 * (x * x + b * b + c * c + d * d) = (x + b + c + d) * (x + b + c + d)) :
    (2 * (b + c + d) - x) + b + c + d > 0 ∧ 2 * ((2 * (b + c + d) - x) * (2 * (b + c + d) - x) + b * b + c * c + d * d) = ((2 * (b + c + d) - x) + b + c + d) * ((2 * (b + c + d) - x) + b + c + d) := by
  constructor
  · have := swap_pos (x := x) (y := b + c + d) (z := b * b + c * c + d * d) (by omega) (by grind) (three_sq b c d)
    omega
  · grind
/-- the quad behind a swap -/
def swl (l : List Int) (i : Nat) : List Int := l.set i (2 * (l.sum - l.getD i 0) - l.getD i 0)
theorem swl0 (a b c d : Int) : swl [a, b, c, d] 0 = [2 * (b + c + d) - a, b, c, d] := by
  simp [swl]; omega
theorem swl1 (a b c d : Int) : swl [a, b, c, d] 1 = [a, 2 * (a + c + d) - b, c, d] := by
  simp [swl]; omega
theorem swl2 (a b c d : Int) : swl [a, b, c, d] 2 = [a, b, 2 * (a + b + d) - c, d] := by
  simp [swl]; omega
theorem swl3 (a b c d : Int) : swl [a, b, c, d] 3 = [a, b, c, 2 * (a + b + c) - d] := by
  simp [swl]; omega
theorem quad_swl {l : List Int} (hq : quadB l = true) {i : Nat} (hi : i < 4) : quadB (swl l i) = inB (-100000) 100000 ((swl l i).getD i 0) := by
  obtain ⟨a, b, c, d, rfl, h0, h1, h2, h3, h4, h5⟩ := quadB_iff.1 hq
  rw [Bool.eq_iff_iff, quadB_iff, inB_iff]
  match i, hi with
  | 0, _ =>
    rw [swl0]
    constructor
    · rintro ⟨a', b', c', d', e, q, _⟩
      simp only [List.cons.injEq] at e
      obtain ⟨rfl, _⟩ := e
      exact q
    · intro q
      have := swap_form (x := a) (b := b) (c := c) (d := d) (by omega) (by grind)
      exact ⟨_, _, _, _, rfl, q, h1, h2, h3, by omega, by grind⟩
  | 1, _ =>
    rw [swl1]
    constructor
    · rintro ⟨a', b', c', d', e, _, q, _⟩
      simp only [List.cons.injEq] at e
      obtain ⟨_, rfl, _⟩ := e
      exact q
    · intro q
      have := swap_form (x := b) (b := a) (c := c) (d := d) (by omega) (by grind)
      exact ⟨_, _, _, _, rfl, h0, q, h2, h3, by omega, by grind⟩
  | 2, _ =>
    rw [swl2]
    constructor
    · rintro ⟨a', b', c', d', e, _, _, q, _⟩
      simp only [List.cons.injEq] at e
      obtain ⟨_, _, rfl, _⟩ := e
      exact q
    · intro q
      have := swap_form (x := c) (b := a) (c := b) (d := d) (by omega) (by grind)
      exact ⟨_, _, _, _, rfl, h0, h1, q, h3, by omega, by grind⟩
  | 3, _ =>
    rw [swl3]
    constructor
    · rintro ⟨a', b', c', d', e, _, _, _, q, _⟩
      simp only [List.cons.injEq] at e
      obtain ⟨_, _, _, rfl, _⟩ := e
      exact q
    · intro q
      have := swap_form (x := d) (b := a) (c := b) (d := c) (by omega) (by grind)
      exact ⟨_, _, _, _, rfl, h0, h1, h2, q, by omega, by grind⟩
  | (i + 4), h => omega
theorem swl_length (l : List Int) (i : Nat) : (swl l i).length = l.length := by simp [swl]
theorem rd_nat (l : List Int) (i : Nat) : rd l (i : Int) = l.getD i 0 := by simp [rd]
theorem bq_get {a b c d : Int} (h0 : bq a) (h1 : bq b) (h2 : bq c) (h3 : bq d) {i : Nat} (hi : i < 4) : bq (([a, b, c, d] : List Int).getD i 0) := by
  match i, hi with
  | 0, _ => exact h0
  | 1, _ => exact h1
  | 2, _ => exact h2
  | 3, _ => exact h3
theorem swapped_ev {l : List Int} (hq : quadB l = true) {i : Nat} (hi : i < 4) : Ev (fun k => impl_swapped.f k l (i : Int)) (swl l i) := by
  obtain ⟨a, b, c, d, rfl, h0, h1, h2, h3, h4, h5⟩ := quadB_iff.1 hq
  have hg := bq_get h0 h1 h2 h3 hi
  have hsum : Ev (fun k => impl_sumOf.f k [a, b, c, d]) (a + b + c + d) := Ev.from 5 (fun k hk => by
    obtain ⟨k, rfl⟩ : ∃ m, k = m + 5 := ⟨k - 5, by omega⟩
    exact sumOf_l h0 h1 h2 h3 k)
  unfold bq at h0 h1 h2 h3 hg
  unfold impl_swapped.f slices_Clone_int_int_86.f
  simp only [if_pos (show ([a, b, c, d] : List Int).length < 17592186044416 by simp), Option.bind_some, len4]
  refine Ev.bind hsum ?_
  rw [if_pos (by omega), if_pos (by omega), rd_nat]
  have hs : ([a, b, c, d] : List Int).sum = a + b + c + d := by simp; omega
  unfold swl
  rw [hs]
  generalize ([a, b, c, d] : List Int).getD i 0 = x at *
  rw [wrap_id (x := a + b + c + d - x) (by omega) (by omega), wrap_id (x := 2 * (a + b + c + d - x)) (by omega) (by omega), wrap_id (x := 2 * (a + b + c + d - x) - x) (by omega) (by omega)]
  simp only [if_pos (show (i : Int) < 4 by omega), Int.toNat_natCast]
  exact Ev.now _
/-- a swap that stays within bounds -/
theorem swap_ev {l : List Int} (hq : quadB l = true) {i : Nat} (hi : i < 4) : Ev (fun k => impl_swap.f k l (i : Int)) (if quadB (swl l i) = true then (swl l i, true) else ([], false)) := by
  have h4 : l.length = 4 := by
    obtain ⟨a, b, c, d, rfl, _⟩ := quadB_iff.1 hq
    rfl
  unfold impl_swap.f
  refine Ev.bind (swapped_ev hq hi) ?_
  simp only [swl_length, h4, within_f, Option.bind_some, rd_nat]
  rw [if_pos (by omega), if_pos (by omega), quad_swl hq hi]
  cases inB (-100000) 100000 ((swl l i).getD i 0) with
  | true => simp only [if_true]; exact Ev.now _
  | false => simp only [Bool.false_eq_true, if_false]; exact Ev.now _
def runw (q : List Int) : List Int → List Int × Bool
  | [] => (q, true)
  | i :: w => if quadB (swl q i.toNat) = true then runw (swl q i.toNat) w else ([], false)
theorem followI_l (w : List Int) (hw : w.all (inB 0 3) = true) (hl : w.length ≤ 1000) (d : Nat) : ∀ (j : Nat) (q : List Int), j + d = w.length → quadB q = true → Ev (fun k => impl_FollowSwaps.l0 k q w (w.length : Int) (j : Int)) (runw q (w.drop j)) := by
  induction d with
  | zero =>
    intro j q hj hq
    rw [List.drop_of_length_le (by omega)]
    refine Ev.step (f := fun _ => some (q, true)) (fun k => ?_) (Ev.now _)
    simp only [impl_FollowSwaps.l0]
    rw [if_neg (by omega)]
  | succ d ih =>
    intro j q hj hq
    have hjl : j < w.length := by omega
    have hb := in03 hw hjl
    obtain ⟨i, hi⟩ : ∃ i : Nat, w[j] = i := ⟨w[j].toNat, by omega⟩
    have hi4 : i < 4 := by omega
    have hg := swap_ev hq hi4
    rw [List.drop_eq_getElem_cons hjl, hi]
    simp only [runw, Int.toNat_natCast]
    refine Ev.step (f := fun k => (impl_swap.f k q (i : Int)).bind fun bt => if bt.2 = true then impl_FollowSwaps.l0 k bt.1 w (w.length : Int) ((j + 1 : Nat) : Int) else some ([], false)) (fun k => ?_) ?_
    · simp only [impl_FollowSwaps.l0]
      rw [if_pos (by omega), if_pos (by omega), if_pos (by omega), rdi_at hjl, hi, wrap_id (by omega) (by omega)]
      rw [show ((j : Int) + 1) = ((j + 1 : Nat) : Int) by omega]
    · cases hqq : quadB (swl q i) with
      | true =>
        rw [hqq] at hg
        refine Ev.bind hg ?_
        simp only [if_true]
        exact ih (j + 1) (swl q i) (by omega) hqq
      | false =>
        rw [hqq] at hg
        refine Ev.bind hg ?_
        simp only [Bool.false_eq_true, if_false]
        exact Ev.now _
theorem u64w (x : Int) : 0 ≤ IntKind.u64.wrap x ∧ IntKind.u64.wrap x < 18446744073709551616 := by
  rw [IntKind.wrap_u64]
  omega
theorem and255 (X : Int) (h0 : 0 ≤ X) (h1 : X < 18446744073709551616) : 0 ≤ Go.bits .and .u64 X 255 ∧ Go.bits .and .u64 X 255 ≤ 255 := by
  rw [u64_and X 255 h0 h1 (by omega) (by omega)]
  have : X.toNat &&& (255 : Int).toNat ≤ (255 : Int).toNat := Nat.and_le_right
  omega
def Bytes (s : List Int) : Prop := ∀ x ∈ s, 0 ≤ x ∧ x ≤ 255
theorem next_ok {s : List Int} (hs : Bytes s) {a : Int} (z : Int) (h0 : 0 ≤ a) (h1 : a ≤ 1000000000) : ∃ x z', spec_l1Cur_next.f s a z = some (x, a + 1, z') ∧ 0 ≤ x ∧ x ≤ 255 := by
  unfold spec_l1Cur_next.f
  rw [wrap_id (x := a + 1) (by omega) (by omega)]
  have hb : ∀ y, 0 ≤ wrap64 (Go.bits .and .u64 (IntKind.u64.wrap y / 1099511627776) 255) ∧ wrap64 (Go.bits .and .u64 (IntKind.u64.wrap y / 1099511627776) 255) ≤ 255 := by
    intro y
    have h := u64w y
    have := and255 (IntKind.u64.wrap y / 1099511627776) (by omega) (by omega)
    rw [wrap_id (by omega) (by omega)]
    exact this
  by_cases c : a < s.length
  · have hr : 0 ≤ rd s a ∧ rd s a ≤ 255 := by
      obtain ⟨i, rfl⟩ : ∃ i : Nat, a = i := ⟨a.toNat, by omega⟩
      rw [rdi_at (by omega)]
      exact hs _ (List.getElem_mem _)
    rw [wrap_id (x := rd s a) (by omega) (by omega), if_pos c, if_pos h0]
    by_cases e : a + 1 ≤ s.length
    · rw [if_pos e]; exact ⟨_, _, rfl, hr⟩
    · rw [if_neg e]; exact ⟨_, _, rfl, hb _⟩
  · rw [if_neg c]
    by_cases e : a + 1 ≤ s.length
    · rw [if_pos e]; exact ⟨_, _, rfl, by omega, by omega⟩
    · rw [if_neg e]; exact ⟨_, _, rfl, hb _⟩
theorem pick_ok {s : List Int} (hs : Bytes s) {a : Int} (z : Int) (h0 : 0 ≤ a) (h1 : a ≤ 1000000000) {n : Int} (hn : n ≤ 200) : ∃ x a' z', spec_l1Cur_pick.f s a z n = some (x, a', z') ∧ 0 ≤ x ∧ (1 ≤ n → x < n) ∧ a ≤ a' ∧ a' ≤ a + 1 := by
  unfold spec_l1Cur_pick.f
  by_cases c : n ≤ 1
  · rw [if_pos c]; exact ⟨_, _, _, rfl, by omega, by omega, by omega, by omega⟩
  · obtain ⟨x, z', hx, x0, x1⟩ := next_ok hs z h0 h1
    rw [if_neg c, hx]
    simp only [Option.bind_some]
    rw [if_neg (by omega), if_neg (by omega), Int.tmod_eq_emod_of_nonneg x0]
    exact ⟨_, _, _, rfl, Int.emod_nonneg _ (by omega), fun _ => Int.emod_lt_of_pos _ (by omega), by omega, by omega⟩
theorem among_ok {s : List Int} (hs : Bytes s) {a : Int} (z : Int) (h0 : 0 ≤ a) (h1 : a ≤ 1000000000) {l : List Int} (hl : 0 < l.length) (h2 : l.length ≤ 200) : ∃ v a' z', spec_l1Cur_among.f s a z l = some (v, a', z') ∧ v ∈ l ∧ a ≤ a' ∧ a' ≤ a + 1 := by
  obtain ⟨x, a', z', hp, x0, xn, a0, a1⟩ := pick_ok hs z h0 h1 (n := (l.length : Int)) (by omega)
  have := xn (by omega)
  obtain ⟨i, rfl⟩ : ∃ i : Nat, x = i := ⟨x.toNat, by omega⟩
  refine ⟨l[i]'(by omega), a', z', ?_, List.getElem_mem _, a0, a1⟩
  unfold spec_l1Cur_among.f
  rw [hp]
  simp only [Option.bind_some]
  rw [if_pos (by omega), if_pos (by omega), rdi_at (by omega)]
theorem one_ok {s : List Int} (hs : Bytes s) {a : Int} (z : Int) (h0 : 0 ≤ a) (h1 : a ≤ 1000000000) {n : Int} (hn : n ≤ 200) : ∃ b a' z', spec_l1Cur_one.f s a z n = some (b, a', z') ∧ a ≤ a' ∧ a' ≤ a + 1 := by
  obtain ⟨x, a', z', hp, x0, xn, a0, a1⟩ := pick_ok hs z h0 h1 hn
  refine ⟨(x == 0), a', z', ?_, a0, a1⟩
  unfold spec_l1Cur_one.f
  rw [hp]
  rfl
def shS (a b c d x y : Int) : S38 := ⟨a + 2 * (c * x + d * y) + b * (x * x + y * y), b, c + b * x, d + b * y⟩
def shiftR (a b c d x y : Int) : Int × Int × Int × Int × Bool := if isC ⟨a, b, c, d⟩ = true ∧ inB (-1000) 1000 x = true ∧ inB (-1000) 1000 y = true ∧ isC (shS a b c d x y) = true then ((shS a b c d x y).f0, (shS a b c d x y).f1, (shS a b c d x y).f2, (shS a b c d x y).f3, true) else (0, 0, 0, 0, false)
theorem shift_spec (a b c d x y : Int) : Ev (fun k => spec_ShiftCircle.f k a b c d x y) (shiftR a b c d x y) := by
  unfold spec_ShiftCircle.f
  simp only [l1In_f, Option.bind_some]
  by_cases h : isC ⟨a, b, c, d⟩ = true
  · have hg := ciGood_ev a b c d
    rw [h] at hg
    by_cases hx : inB (-1000) 1000 x = true
    · simp only [if_pos hx]
      by_cases hy : inB (-1000) 1000 y = true
      · simp only [if_pos hy]
        have hh := h
        have hx' := hx
        have hy' := hy
        rw [isC_iff] at h
        obtain ⟨⟨h0, h1, h2, h3⟩, he⟩ := h
        rw [inB_iff] at hx hy
        simp only [bnd] at h0 h1 h2 h3
        have b1 := sqb (A := 1000000) (B := 1000) (by omega) h2.2 (by omega) hx.2
        have b2 := sqb (A := 1000000) (B := 1000) (by omega) h3.2 (by omega) hy.2
        have b3 := sqb (A := 1000) (B := 1000) (by omega) hx.2 (by omega) hx.2
        have b4 := sqb (A := 1000) (B := 1000) (by omega) hy.2 (by omega) hy.2
        have b5 := sqb (A := 1000000) (B := 1000) (by omega) h1.2 (by omega) hx.2
        have b6 := sqb (A := 1000000) (B := 1000) (by omega) h1.2 (by omega) hy.2
        have b7 := sqb (a := b) (b := x * x + y * y) (A := 1000000) (B := 2000000) (by omega) h1.2 (by omega) (by omega)
        rw [wrap_id (x := c * x) (by omega) (by omega), wrap_id (x := d * y) (by omega) (by omega), wrap_id (x := x * x) (by omega) (by omega), wrap_id (x := y * y) (by omega) (by omega), wrap_id (x := b * x) (by omega) (by omega), wrap_id (x := b * y) (by omega) (by omega), wrap_id (x := x * x + y * y) (by omega) (by omega), wrap_id (x := b * (x * x + y * y)) (by omega) (by omega), wrap_id (x := c * x + d * y) (by omega) (by omega), wrap_id (x := 2 * (c * x + d * y)) (by omega) (by omega), wrap_id (x := a + 2 * (c * x + d * y)) (by omega) (by omega), wrap_id (x := a + 2 * (c * x + d * y) + b * (x * x + y * y)) (by omega) (by omega), wrap_id (x := c + b * x) (by omega) (by omega), wrap_id (x := d + b * y) (by omega) (by omega)]
        have e : shiftR a b c d x y = if isC ⟨a + 2 * (c * x + d * y) + b * (x * x + y * y), b, c + b * x, d + b * y⟩ = true then (a + 2 * (c * x + d * y) + b * (x * x + y * y), b, c + b * x, d + b * y, true) else (0, 0, 0, 0, false) := by
          unfold shiftR
          by_cases hs : isC (shS a b c d x y) = true
          · rw [if_pos ⟨hh, hx', hy', hs⟩, if_pos (show isC ⟨a + 2 * (c * x + d * y) + b * (x * x + y * y), b, c + b * x, d + b * y⟩ = true from hs)]
            rfl
          · rw [if_neg (fun z => hs z.2.2.2), if_neg (show ¬ isC ⟨a + 2 * (c * x + d * y) + b * (x * x + y * y), b, c + b * x, d + b * y⟩ = true from hs)]
        rw [e]
        refine Ev.bind hg ?_
        simp only [if_true]
        exact Ev.bind (ciIf_ev _ _ _ _) (Ev.now _)
      · simp only [if_neg hy]
        have e : shiftR a b c d x y = (0, 0, 0, 0, false) := if_neg (fun z => hy z.2.2.1)
        rw [e]
        exact Ev.bind hg (by simp only [if_true]; exact Ev.now _)
    · simp only [if_neg hx]
      have e : shiftR a b c d x y = (0, 0, 0, 0, false) := if_neg (fun z => hx z.2.1)
      rw [e]
      exact Ev.bind hg (by simp only [if_true]; exact Ev.now _)
  · have hg := ciGood_ev a b c d
    have e : shiftR a b c d x y = (0, 0, 0, 0, false) := if_neg (fun z => h z.1)
    rw [e]
    exact Ev.bind hg (by simp only [if_neg h]; exact Ev.now _)
theorem conf_j2 {s : List Int} (hs : Bytes s) (q : List S38) (hq : q.length ≤ 4) {a : Int} (z : Int) (h0 : 0 ≤ a) (h1 : a ≤ 1000000) : ∃ r a' z', Ev (fun k => spec_l1Cur_config.j2 k q s a z) (r, a', z') ∧ r.length ≤ 5 ∧ a ≤ a' ∧ a' ≤ a + 4 := by
  obtain ⟨x, a1, z1, hp, x0, xn, p0, p1⟩ := pick_ok hs z h0 (by omega) (n := 20) (by omega)
  by_cases c0 : x = 0
  · by_cases cl : (q.length : Int) > 0
    · obtain ⟨i, a2, z2, hp2, i0, iN, p2, p3⟩ := pick_ok hs (a := a1) z1 (by omega) (by omega) (n := (q.length : Int)) (by omega)
      obtain ⟨y, a3, z3, hp3, y0, yN, p4, p5⟩ := pick_ok hs (a := a2) z2 (by omega) (by omega) (n := 3) (by omega)
      obtain ⟨v, a4, z4, hp4, v0, vN, p6, p7⟩ := pick_ok hs (a := a3) z3 (by omega) (by omega) (n := 3) (by omega)
      have := iN (by omega)
      refine ⟨_, a4, z4, Ev.step (f := fun _ => some (q.set (i : Int).toNat (⟨y, wrap64 (v - 1), 1, 0⟩ : S38), a4, z4)) (fun k => ?_) (Ev.now _), by simp; omega, by omega, by omega⟩
      rw [spec_l1Cur_config.j2, hp]
      simp only [Option.bind_some]
      rw [if_pos c0, if_pos cl, hp2]
      simp only [Option.bind_some]
      rw [hp3]
      simp only [Option.bind_some]
      rw [hp4]
      simp only [Option.bind_some]
      rw [if_pos i0, if_pos this]
    · refine ⟨q, a1, z1, Ev.step (f := fun _ => some (q, a1, z1)) (fun k => ?_) (Ev.now _), by omega, by omega, by omega⟩
      rw [spec_l1Cur_config.j2, hp]
      simp only [Option.bind_some]
      rw [if_pos c0, if_neg cl]
  · by_cases c1 : x = 1
    · refine ⟨_, a1, z1, Ev.step (f := fun _ => some (q ++ [(⟨0, 0, 0, 1⟩ : S38)], a1, z1)) (fun k => ?_) (Ev.now _), by simp; omega, by omega, by omega⟩
      rw [spec_l1Cur_config.j2, hp]
      simp only [Option.bind_some]
      rw [if_neg c0, if_pos c1, if_pos (by omega)]
    · by_cases c2 : x = 2
      · refine ⟨[], a1, z1, Ev.step (f := fun _ => some ([], a1, z1)) (fun k => ?_) (Ev.now _), by simp, by omega, by omega⟩
        rw [spec_l1Cur_config.j2, hp]
        simp only [Option.bind_some]
        rw [if_neg c0, if_neg c1, if_pos c2]
      · refine ⟨q, a1, z1, Ev.step (f := fun _ => some (q, a1, z1)) (fun k => ?_) (Ev.now _), by omega, by omega, by omega⟩
        rw [spec_l1Cur_config.j2, hp]
        simp only [Option.bind_some]
        rw [if_neg c0, if_neg c1, if_neg c2]
theorem conf_l1 {s : List Int} (hs : Bytes s) (q : List S38) (hq : q.length ≤ 4) (x y : Int) {a : Int} (z : Int) (h0 : 0 ≤ a) (h1 : a ≤ 1000000) (d : Nat) : ∀ (i : Nat) (o : List S38), i + d = q.length → o.length ≤ i → ∃ r a' z', Ev (fun k => spec_l1Cur_config.l1 k o x y q (q.length : Int) (i : Int) s a z) (r, a', z') ∧ r.length ≤ 5 ∧ a ≤ a' ∧ a' ≤ a + 4 := by
  induction d with
  | zero =>
    intro i o hi ho
    obtain ⟨r, a', z', he, hr, p0, p1⟩ := conf_j2 hs o (by omega) z h0 h1
    exact ⟨r, a', z', Ev.step (fun k => by rw [spec_l1Cur_config.l1, if_neg (by omega)]) he, hr, p0, p1⟩
  | succ d ih =>
    intro i o hi ho
    have hil : i < q.length := by omega
    have hsh := shift_spec q[i].f0 q[i].f1 q[i].f2 q[i].f3 x y
    have hst : ∀ k, spec_l1Cur_config.l1 (k + 1) o x y q (q.length : Int) (i : Int) s a z = (spec_ShiftCircle.f k q[i].f0 q[i].f1 q[i].f2 q[i].f3 x y).bind fun bt => (if bt.2.2.2.2 = true then (if o.length < 4398046511104 then (spec_l1Cur_config.l1 k (o ++ [(⟨bt.1, bt.2.1, bt.2.2.1, bt.2.2.2.1⟩ : S38)]) x y q (q.length : Int) ((i + 1 : Nat) : Int) s a z) else none) else (spec_l1Cur_config.l1 k o x y q (q.length : Int) ((i + 1 : Nat) : Int) s a z)) := by
      intro k
      rw [spec_l1Cur_config.l1, if_pos (by omega), if_pos (by omega), if_pos (by omega), rdC_at hil, wrap_id (by omega) (by omega)]
      rfl
    generalize shiftR q[i].f0 q[i].f1 q[i].f2 q[i].f3 x y = R at hsh
    by_cases hR : R.2.2.2.2 = true
    · obtain ⟨r, a', z', he, hr, p0, p1⟩ := ih (i + 1) (o ++ [(⟨R.1, R.2.1, R.2.2.1, R.2.2.2.1⟩ : S38)]) (by omega) (by simp; omega)
      refine ⟨r, a', z', Ev.step hst (Ev.bind hsh ?_), hr, p0, p1⟩
      simp only [if_pos hR, if_pos (show o.length < 4398046511104 by omega)]
      exact he
    · obtain ⟨r, a', z', he, hr, p0, p1⟩ := ih (i + 1) o (by omega) (by omega)
      refine ⟨r, a', z', Ev.step hst (Ev.bind hsh ?_), hr, p0, p1⟩
      simp only [if_neg hR]
      exact he
def bd (b : Nat) (x : S38) : Prop := (-(b : Int) ≤ x.f0 ∧ x.f0 ≤ b) ∧ (-(b : Int) ≤ x.f1 ∧ x.f1 ≤ b) ∧ (-(b : Int) ≤ x.f2 ∧ x.f2 ≤ b) ∧ (-(b : Int) ≤ x.f3 ∧ x.f3 ≤ b)
theorem bd_bnd {b : Nat} (hb : b ≤ 1000000) {x : S38} (h : bd b x) : bndC x := by
  unfold bd at h
  unfold bndC bnd
  omega
theorem four38 {l : List S38} (h : l.length = 4) : ∃ a b c d, l = [a, b, c, d] := by
  match l, h with
  | [a, b, c, d], _ => exact ⟨a, b, c, d, rfl⟩
theorem bd_mix {b : Nat} {x y z w : S38} (hx : bd b x) (hy : bd b y) (hz : bd b z) (hw : bd b w) : bd (7 * b) (mix x y z w) := by
  unfold bd mix at *
  simp only
  omega
theorem bd_up {b : Nat} {x : S38} (h : bd b x) : bd (7 * b) x := by
  unfold bd at *
  omega
theorem swc_bd {b : Nat} {q : List S38} (hq : q.length = 4) (h : ∀ x ∈ q, bd b x) {i : Nat} (hi : i < 4) : ∀ x ∈ swc q i, bd (7 * b) x := by
  obtain ⟨a0, a1, a2, a3, rfl⟩ := four38 hq
  have h0 := h a0 (by simp)
  have h1 := h a1 (by simp)
  have h2 := h a2 (by simp)
  have h3 := h a3 (by simp)
  intro x hx
  unfold swc at hx
  have := List.mem_or_eq_of_mem_set hx
  rcases this with hm | rfl
  · exact bd_up (h x hm)
  · obtain rfl | rfl | rfl | rfl : i = 0 ∨ i = 1 ∨ i = 2 ∨ i = 3 := by omega
    · rw [nc0]; exact bd_mix h0 h1 h2 h3
    · rw [nc1]; exact bd_mix h1 h0 h2 h3
    · rw [nc2]; exact bd_mix h2 h0 h1 h3
    · rw [nc3]; exact bd_mix h3 h0 h1 h2
theorem conf_l0 {s : List Int} (hs : Bytes s) (n : Nat) : ∀ (q : List S38) (b : Nat) (a z : Int), q.length = 4 → (∀ x ∈ q, bd b x) → b * 7 ^ n ≤ 1000000 → n ≤ 100 → 0 ≤ a → a + n ≤ 100000 → ∃ r a' z', Ev (fun k => spec_l1Cur_config.l0 k q (n : Int) s a z) (r, a', z') ∧ r.length ≤ 5 ∧ a ≤ a' ∧ a' ≤ a + n + 10 := by
  induction n with
  | zero =>
    intro q b a z hq hb hB _ h0 h1
    obtain ⟨t, a1, z1, hp, p0, p1⟩ := one_ok hs z h0 (by omega) (n := 3) (by omega)
    by_cases ht : t = true
    · obtain ⟨x, a2, z2, hp2, x0, xN, p2, p3⟩ := pick_ok hs (a := a1) z1 (by omega) (by omega) (n := 5) (by omega)
      obtain ⟨y, a3, z3, hp3, y0, yN, p4, p5⟩ := pick_ok hs (a := a2) z2 (by omega) (by omega) (n := 5) (by omega)
      obtain ⟨r, a4, z4, he, hr, p6, p7⟩ := conf_l1 hs q (by omega) (wrap64 (x - 2)) (wrap64 (y - 2)) (a := a3) z3 (by omega) (by omega) q.length 0 [] (by omega) (by simp)
      refine ⟨r, a4, z4, Ev.step (fun k => ?_) he, hr, by omega, by omega⟩
      rw [spec_l1Cur_config.l0, if_neg (by omega), hp]
      simp only [Option.bind_some]
      rw [if_pos ht, hp2]
      simp only [Option.bind_some]
      rw [hp3]
      rfl
    · obtain ⟨r, a4, z4, he, hr, p6, p7⟩ := conf_j2 hs q (by omega) (a := a1) z1 (by omega) (by omega)
      refine ⟨r, a4, z4, Ev.step (fun k => ?_) he, hr, by omega, by omega⟩
      rw [spec_l1Cur_config.l0, if_neg (by omega), hp]
      simp only [Option.bind_some]
      rw [if_neg ht]
  | succ n ih =>
    intro q b a z hq hb hB hn h0 h1
    have hB' : 7 * b * 7 ^ n ≤ 1000000 := by
      rw [Nat.pow_succ] at hB
      rw [Nat.mul_comm 7 b, Nat.mul_assoc, Nat.mul_comm 7]
      exact hB
    have hb6 : b ≤ 1000000 := by
      have : 0 < 7 ^ n := by first | exact Nat.pow_pos (by omega) | exact Nat.pos_pow_of_pos n (by omega) | exact Nat.pos_of_ne_zero (by simp)
      have := Nat.le_mul_of_pos_right (7 * b) this
      omega
    obtain ⟨x, a1, z1, hp, x0, xN, p0, p1⟩ := pick_ok hs z h0 (by omega) (n := 4) (by omega)
    have := xN (by omega)
    obtain ⟨i, rfl⟩ : ∃ i : Nat, x = i := ⟨x.toNat, by omega⟩
    have hsw := ciSwap_ev q hq (fun y hy => bd_bnd hb6 (hb y hy)) (i := i) (by omega)
    obtain ⟨r, a2, z2, he, hr, p2, p3⟩ := ih (swc q i) (7 * b) a1 z1 (by rw [swc_length]; exact hq) (swc_bd hq hb (by omega)) hB' (by omega) (by omega) (by omega)
    refine ⟨r, a2, z2, Ev.step (f := fun k => (spec_ciSwap.f k q (i : Int)).bind fun t => spec_l1Cur_config.l0 k t (n : Int) s a1 z1) (fun k => ?_) (Ev.bind hsw he), hr, by omega, by omega⟩
    rw [spec_l1Cur_config.l0, if_pos (by omega), hp]
    simp only [Option.bind_some]
    rw [wrap_id (by omega) (by omega), show ((n + 1 : Nat) : Int) - 1 = (n : Int) by omega]
theorem config_ok {s : List Int} (hs : Bytes s) {a : Int} (z : Int) (h0 : 0 ≤ a) (h1 : a ≤ 10000) : ∃ r a' z', Ev (fun k => spec_l1Cur_config.f k s a z) (r, a', z') ∧ r.length ≤ 5 ∧ a ≤ a' ∧ a' ≤ a + 20 := by
  obtain ⟨x, a1, z1, hp, x0, xN, p0, p1⟩ := pick_ok hs z h0 (by omega) (n := 2) (by omega)
  have := xN (by omega)
  obtain ⟨v, a2, z2, hp2, hv, p2, p3⟩ := among_ok hs (a := a1) z1 (by omega) (by omega) (l := [0, 0, 1, 2, 3, 5]) (by simp) (by simp)
  have hv' : 0 ≤ v ∧ v ≤ 5 := by
    simp only [List.mem_cons, List.not_mem_nil, or_false] at hv
    omega
  obtain ⟨n, rfl⟩ : ∃ n : Nat, v = n := ⟨v.toNat, by omega⟩
  obtain ⟨q, t, hst, hq4, hqb⟩ : ∃ q t, spec_StartConfig.f x = some (q, t) ∧ q.length = 4 ∧ ∀ y ∈ q, bd 4 y := by
    unfold spec_StartConfig.f
    by_cases c0 : x = 0
    · rw [if_pos c0]
      refine ⟨_, _, rfl, rfl, ?_⟩
      intro y hy
      simp only [List.mem_cons, List.not_mem_nil, or_false] at hy
      unfold bd
      rcases hy with rfl | rfl | rfl | rfl <;> simp
    · rw [if_neg c0, if_pos (show x = 1 by omega)]
      refine ⟨_, _, rfl, rfl, ?_⟩
      intro y hy
      simp only [List.mem_cons, List.not_mem_nil, or_false] at hy
      unfold bd
      rcases hy with rfl | rfl | rfl | rfl <;> simp
  have h7 : 4 * 7 ^ n ≤ 1000000 := by
    have := Nat.pow_le_pow_right (show 0 < 7 by omega) (show n ≤ 5 by omega)
    omega
  obtain ⟨r, a3, z3, he, hr, p4, p5⟩ := conf_l0 hs n q 4 a2 z2 hq4 hqb h7 (by omega) (by omega) (by omega)
  refine ⟨r, a3, z3, ?_, hr, by omega, by omega⟩
  unfold spec_l1Cur_config.f
  rw [hp]
  simp only [Option.bind_some]
  rw [hst]
  simp only [Option.bind_some]
  rw [hp2]
  exact he
theorem draw1 {s : List Int} (hs : Bytes s) : ∃ l i, Ev (fun k => spec_DrawSwapCircle.f k s) (l, i) ∧ l.length ≤ 5 := by
  obtain ⟨r, a, z, he, hr, p0, p1⟩ := config_ok hs (a := 0) 0 (by omega) (by omega)
  obtain ⟨v, a2, z2, hp2, hv, p2, p3⟩ := among_ok hs (a := a) z (by omega) (by omega) (l := [0, 1, 2, 3, 3, 4, (-1)]) (by simp) (by simp)
  refine ⟨r, v, ?_, hr⟩
  unfold spec_DrawSwapCircle.f
  refine Ev.bind he ?_
  simp only [hp2, Option.bind_some]
  exact Ev.now _
theorem draw2_l {s : List Int} (hs : Bytes s) (l : List S38) (hl : l.length ≤ 5) (n : Nat) : ∀ (w : List Int) (a z : Int), w.length + n ≤ 100 → 0 ≤ a → a + n ≤ 10000 → ∃ w', Ev (fun k => spec_DrawFollowCircles.l0 k l w (n : Int) s a z) (l, w') ∧ w'.length ≤ 100 := by
  induction n with
  | zero =>
    intro w a z hw h0 h1
    by_cases c : (w.length : Int) > 0
    · obtain ⟨t, a1, z1, hp, p0, p1⟩ := one_ok hs z h0 (by omega) (n := 15) (by omega)
      by_cases ht : t = true
      · obtain ⟨v, a2, z2, hp2, hv, p2, p3⟩ := among_ok hs (a := a1) z1 (by omega) (by omega) (l := [(-1), 4]) (by simp) (by simp)
        refine ⟨w.set (0 : Int).toNat v, Ev.step (f := fun _ => some (l, w.set (0 : Int).toNat v)) (fun k => ?_) (Ev.now _), by simp; omega⟩
        rw [spec_DrawFollowCircles.l0, if_neg (by omega), if_pos c, hp]
        simp only [Option.bind_some]
        rw [if_pos ht, hp2]
        simp only [Option.bind_some]
        rw [if_pos (by omega)]
      · refine ⟨w, Ev.step (f := fun _ => some (l, w)) (fun k => ?_) (Ev.now _), by omega⟩
        rw [spec_DrawFollowCircles.l0, if_neg (by omega), if_pos c, hp]
        simp only [Option.bind_some]
        rw [if_neg ht]
    · refine ⟨w, Ev.step (f := fun _ => some (l, w)) (fun k => ?_) (Ev.now _), by omega⟩
      rw [spec_DrawFollowCircles.l0, if_neg (by omega), if_neg c]
  | succ n ih =>
    intro w a z hw h0 h1
    obtain ⟨v, a2, z2, hp2, hv, p2, p3⟩ := among_ok hs (a := a) z (by omega) (by omega) (l := [0, 1, 2, 3, 3]) (by simp) (by simp)
    obtain ⟨w', he, hl'⟩ := ih (w ++ [v]) a2 z2 (by simp; omega) (by omega) (by omega)
    refine ⟨w', Ev.step (fun k => ?_) he, hl'⟩
    rw [spec_DrawFollowCircles.l0, if_pos (by omega), hp2]
    simp only [Option.bind_some]
    rw [if_pos (by omega), wrap_id (by omega) (by omega), show ((n + 1 : Nat) : Int) - 1 = (n : Int) by omega]
theorem draw2 {s : List Int} (hs : Bytes s) : ∃ l w, Ev (fun k => spec_DrawFollowCircles.f k s) (l, w) ∧ l.length ≤ 5 ∧ w.length ≤ 100 := by
  obtain ⟨r, a, z, he, hr, p0, p1⟩ := config_ok hs (a := 0) 0 (by omega) (by omega)
  obtain ⟨v, a2, z2, hp2, hv, p2, p3⟩ := among_ok hs (a := a) z (by omega) (by omega) (l := [0, 1, 2, 3, 6, 12, 40, 41]) (by simp) (by simp)
  have hv' : 0 ≤ v ∧ v ≤ 41 := by
    simp only [List.mem_cons, List.not_mem_nil, or_false] at hv
    omega
  obtain ⟨n, rfl⟩ : ∃ n : Nat, v = n := ⟨v.toNat, by omega⟩
  obtain ⟨w, hw, hwl⟩ := draw2_l hs r hr n [] a2 z2 (by simp; omega) (by omega) (by omega)
  refine ⟨r, w, ?_, hr, hwl⟩
  unfold spec_DrawFollowCircles.f
  refine Ev.bind he ?_
  simp only [hp2, Option.bind_some]
  exact hw
theorem draw3 {s : List Int} (hs : Bytes s) : ∃ v, spec_DrawStartConfig.f s = some v := by
  obtain ⟨v, a2, z2, hp2, hv, p2, p3⟩ := among_ok hs (a := 0) 0 (by omega) (by omega) (l := [0, 1, 2, (-1)]) (by simp) (by simp)
  refine ⟨v, ?_⟩
  unfold spec_DrawStartConfig.f
  rw [hp2]
  rfl

theorem dSame_l (l : List Int) (hl : (l.length : Int) ≤ 9223372036854775806) (d : Nat) : ∀ i, i + d = l.length → Ev (fun k => laws_dSame.l0 k l l (l.length : Int) (i : Int)) true := by
  induction d with
  | zero =>
    intro i hi
    exact Ev.step (fun k => by rw [laws_dSame.l0, if_neg (by omega)]) (Ev.now _)
  | succ d ih =>
    intro i hi
    refine Ev.step (fun k => ?_) (ih (i + 1) (by omega))
    rw [laws_dSame.l0, if_pos (by omega), if_pos (by omega), if_pos (by omega), if_pos (by omega), if_pos rfl, wrap_id (by omega) (by omega)]
    rfl
theorem dSame_ev (l : List Int) (hl : (l.length : Int) ≤ 9223372036854775806) : Ev (fun k => laws_dSame.f k l l) true := by
  unfold laws_dSame.f
  simp only [if_true]
  exact dSame_l l hl l.length 0 (by omega)
theorem dCircles_l (l : List S38) (hl : (l.length : Int) ≤ 9223372036854775806) (d : Nat) : ∀ i, i + d = l.length → Ev (fun k => laws_dCircles.l0 k l l (l.length : Int) (i : Int)) true := by
  induction d with
  | zero =>
    intro i hi
    exact Ev.step (fun k => by rw [laws_dCircles.l0, if_neg (by omega)]) (Ev.now _)
  | succ d ih =>
    intro i hi
    refine Ev.step (fun k => ?_) (ih (i + 1) (by omega))
    rw [laws_dCircles.l0, if_pos (by omega), if_pos (by omega), if_pos (by omega), if_pos (by omega), if_neg (by simp), wrap_id (by omega) (by omega)]
    rfl
theorem dCircles_ev (l : List S38) (hl : (l.length : Int) ≤ 9223372036854775806) : Ev (fun k => laws_dCircles.f k l l) true := by
  unfold laws_dCircles.f
  simp only [if_true]
  exact dCircles_l l hl l.length 0 (by omega)
theorem fol1 (l : List S38) (i : Int) : folR l [i] = if cfgB l = true ∧ inB 0 3 i = true ∧ inC (nc l i.toNat) = true then (swc l i.toNat, true) else ([], false) := by
  unfold folR
  by_cases h1 : cfgB l = true
  · by_cases h2 : inB 0 3 i = true
    · rw [if_pos ⟨h1, by simp, by simp [h2]⟩]
      simp only [runC]
      by_cases h3 : inC (nc l i.toNat) = true
      · rw [if_pos h3, if_pos ⟨h1, h2, h3⟩]
      · rw [if_neg h3, if_neg (fun z => h3 z.2.2)]
    · rw [if_neg (fun z => h2 (by simpa using z.2.2)), if_neg (fun z => h2 z.2.1)]
  · rw [if_neg (fun z => h1 z.1), if_neg (fun z => h1 z.1)]
theorem mix_mix (x y z w : S38) : mix (mix x y z w) y z w = x := by
  cases x
  unfold mix
  simp only [S38.mk.injEq]
  omega
theorem swc_back {l : List S38} (h : cfgB l = true) {i : Nat} (hi : i < 4) (hc : inC (nc l i) = true) : folR (swc l i) [(i : Int)] = (l, true) := by
  have h2 := (cfg_swc h hi).2 hc
  obtain ⟨a, b, c, d, rfl, ⟨ha, hb, hcc, hd⟩, _⟩ := cfgB_iff.1 h
  have ia : ∀ x : S38, isC x = true → inC x = true := fun x hx => by rw [← isC_mix (isC_q hx)]; exact hx
  rw [fol1, Int.toNat_natCast]
  have hin : inB 0 3 (i : Int) = true := inB_of (by omega)
  obtain rfl | rfl | rfl | rfl : i = 0 ∨ i = 1 ∨ i = 2 ∨ i = 3 := by omega
  · have e : nc (swc [a, b, c, d] 0) 0 = a := by unfold swc; rw [nc0]; show nc [mix a b c d, b, c, d] 0 = a; rw [nc0, mix_mix]
    rw [if_pos ⟨h2, hin, by rw [e]; exact ia _ ha⟩]
    have e2 : swc (swc [a, b, c, d] 0) 0 = [a, b, c, d] := by show (swc [a, b, c, d] 0).set 0 _ = _; rw [e]; rfl
    rw [e2]
  · have e : nc (swc [a, b, c, d] 1) 1 = b := by unfold swc; rw [nc1]; show nc [a, mix b a c d, c, d] 1 = b; rw [nc1, mix_mix]
    rw [if_pos ⟨h2, hin, by rw [e]; exact ia _ hb⟩]
    have e2 : swc (swc [a, b, c, d] 1) 1 = [a, b, c, d] := by show (swc [a, b, c, d] 1).set 1 _ = _; rw [e]; rfl
    rw [e2]
  · have e : nc (swc [a, b, c, d] 2) 2 = c := by unfold swc; rw [nc2]; show nc [a, b, mix c a b d, d] 2 = c; rw [nc2, mix_mix]
    rw [if_pos ⟨h2, hin, by rw [e]; exact ia _ hcc⟩]
    have e2 : swc (swc [a, b, c, d] 2) 2 = [a, b, c, d] := by show (swc [a, b, c, d] 2).set 2 _ = _; rw [e]; rfl
    rw [e2]
  · have e : nc (swc [a, b, c, d] 3) 3 = d := by unfold swc; rw [nc3]; show nc [a, b, c, mix d a b c] 3 = d; rw [nc3, mix_mix]
    rw [if_pos ⟨h2, hin, by rw [e]; exact ia _ hd⟩]
    have e2 : swc (swc [a, b, c, d] 3) 3 = [a, b, c, d] := by show (swc [a, b, c, d] 3).set 3 _ = _; rw [e]; rfl
    rw [e2]
theorem curv_swc {l : List S38} (h4 : l.length = 4) {i : Nat} (hi : i < 4) : (swc l i).map S38.f1 = swl (l.map S38.f1) i := by
  obtain ⟨a, b, c, d, rfl⟩ := four38 h4
  obtain rfl | rfl | rfl | rfl : i = 0 ∨ i = 1 ∨ i = 2 ∨ i = 3 := by omega
  · unfold swc; rw [nc0, show List.map S38.f1 [a, b, c, d] = [a.f1, b.f1, c.f1, d.f1] from rfl, swl0]; rfl
  · unfold swc; rw [nc1, show List.map S38.f1 [a, b, c, d] = [a.f1, b.f1, c.f1, d.f1] from rfl, swl1]; rfl
  · unfold swc; rw [nc2, show List.map S38.f1 [a, b, c, d] = [a.f1, b.f1, c.f1, d.f1] from rfl, swl2]; rfl
  · unfold swc; rw [nc3, show List.map S38.f1 [a, b, c, d] = [a.f1, b.f1, c.f1, d.f1] from rfl, swl3]; rfl
theorem all_cons {i : Int} {w : List Int} (h : (i :: w).all (inB 0 3) = true) : (∃ j : Nat, i = j ∧ j < 4) ∧ w.all (inB 0 3) = true := by
  rw [List.all_cons, Bool.and_eq_true] at h
  have := inB_iff.1 h.1
  exact ⟨⟨i.toNat, by omega, by omega⟩, h.2⟩
theorem run_cfg (w : List Int) : ∀ l, cfgB l = true → w.all (inB 0 3) = true → (runC l w).2 = true → cfgB (runC l w).1 = true := by
  induction w with
  | nil => intro l h _ _; exact h
  | cons i w ih =>
    intro l h hw hr
    obtain ⟨⟨j, rfl, hj⟩, hw'⟩ := all_cons hw
    simp only [runC, Int.toNat_natCast] at hr ⊢
    by_cases hc : inC (nc l j) = true
    · rw [if_pos hc] at hr ⊢
      exact ih _ ((cfg_swc h hj).2 hc) hw' hr
    · rw [if_neg hc] at hr
      exact absurd hr (by decide)
theorem run_curv (w : List Int) : ∀ l, cfgB l = true → w.all (inB 0 3) = true → (runC l w).2 = true → (runw (l.map S38.f1) w).2 = true → (runw (l.map S38.f1) w).1 = (runC l w).1.map S38.f1 := by
  induction w with
  | nil => intro l _ _ _ _; rfl
  | cons i w ih =>
    intro l h hw hr hq
    obtain ⟨⟨j, rfl, hj⟩, hw'⟩ := all_cons hw
    simp only [runC, runw, Int.toNat_natCast] at hr hq ⊢
    by_cases hc : inC (nc l j) = true
    · rw [if_pos hc] at hr ⊢
      by_cases hc2 : quadB (swl (l.map S38.f1) j) = true
      · rw [if_pos hc2] at hq ⊢
        rw [← curv_swc (cfg_len h) hj] at hq ⊢
        exact ih _ ((cfg_swc h hj).2 hc) hw' hr hq
      · rw [if_neg hc2] at hq
        exact absurd hq (by decide)
    · rw [if_neg hc] at hr
      exact absurd hr (by decide)
theorem swapAtI (l : List Int) (i : Int) : ∃ q : List Int × Bool, Ev (fun k => impl_SwapAt.f k l i) q ∧ (q.2 = true → q.1 = swl l i.toNat) := by
  have hu := isQuad_ev l
  unfold impl_SwapAt.f impl_isIndex.f
  by_cases hq : quadB l = true
  · rw [hq] at hu
    by_cases hi : inB 0 3 i = true
    · obtain ⟨h0, h3⟩ := inB_iff.1 hi
      obtain ⟨j, rfl⟩ : ∃ j : Nat, i = j := ⟨i.toNat, by omega⟩
      have hs := swap_ev hq (i := j) (by omega)
      refine ⟨if quadB (swl l j) = true then (swl l j, true) else ([], false), Ev.bind hu ?_, ?_⟩
      · simp only [if_true, within_f, Option.bind_some, hi]
        exact Ev.bind hs (Ev.now _)
      · rw [Int.toNat_natCast]
        split
        · intro _; rfl
        · intro h; exact absurd h (by decide)
    · refine ⟨([], false), Ev.bind hu ?_, fun h => absurd h (by decide)⟩
      simp only [if_true, within_f, Option.bind_some, if_neg hi]
      exact Ev.now _
  · rw [Bool.eq_false_iff.2 hq] at hu
    refine ⟨([], false), Ev.bind hu ?_, fun h => absurd h (by decide)⟩
    simp only [Bool.false_eq_true, if_false]
    exact Ev.now _
theorem followI (l w : List Int) : ∃ q : List Int × Bool, Ev (fun k => impl_FollowSwaps.f k l w) q ∧ (q.2 = true → q = runw l w ∧ w.all (inB 0 3) = true) := by
  have hu := isQuad_ev l
  have ji : Ev (fun k => impl_FollowSwaps.j0 k l w true) (([] : List Int), false) := Ev.step (fun _ => impl_FollowSwaps.j0.eq_2 ..) (by simp only [if_true]; exact Ev.now _)
  unfold impl_FollowSwaps.f impl_allWithin.f
  by_cases hq : quadB l = true
  · rw [hq] at hu
    by_cases hw : (w.length : Int) > 200
    · refine ⟨([], false), Ev.bind hu ?_, fun h => absurd h (by decide)⟩
      simp only [if_true, if_pos hw]
      exact ji
    · cases hall : w.all (inB 0 3) with
      | false =>
        refine ⟨([], false), Ev.bind hu ?_, fun h => absurd h (by decide)⟩
        simp only [if_true, if_neg hw, hall, Option.bind_some, Bool.not_false]
        exact ji
      | true =>
        have ei := followI_l w hall (by omega) w.length 0 l (by omega) hq
        rw [List.drop_zero] at ei
        refine ⟨runw l w, Ev.bind hu ?_, fun _ => ⟨rfl, rfl⟩⟩
        simp only [if_true, if_neg hw, hall, Option.bind_some, Bool.not_true]
        refine Ev.step (fun _ => impl_FollowSwaps.j0.eq_2 ..) ?_
        have h4 : l.length = 4 := by
          obtain ⟨a, b, c, d, rfl, _⟩ := quadB_iff.1 hq
          rfl
        simp only [Bool.false_eq_true, if_false, slices_Clone_int_int_86.f, if_pos (show l.length < 17592186044416 by omega), Option.bind_some]
        exact ei
  · rw [Bool.eq_false_iff.2 hq] at hu
    refine ⟨([], false), Ev.bind hu ?_, fun h => absurd h (by decide)⟩
    simp only [Bool.false_eq_true, if_false]
    exact ji
def icR (l : List S38) : Bool × Bool := if fourB l = true then (cfgB l, true) else (false, false)
theorem icI (l : List S38) : Ev (fun k => impl_IsConfig.f k l) (icR l) := by
  have e3 := isConfig_ev l
  unfold impl_IsConfig.f icR
  rw [areFour_f]
  simp only [Option.bind_some]
  by_cases h : fourB l = true
  · simp only [if_pos h]
    exact Ev.bind e3 (Ev.now _)
  · simp only [if_neg h]
    exact Ev.now _
theorem icS (l : List S38) : Ev (fun k => spec_IsConfig.f k l) (icR l) := by
  have e1 := ciFour_ev l
  have e2 := ciConfig_ev l
  unfold spec_IsConfig.f icR
  refine Ev.bind e1 ?_
  by_cases h : fourB l = true
  · simp only [if_pos h]
    exact Ev.bind e2 (Ev.now _)
  · simp only [if_neg h]
    exact Ev.now _
theorem ic_of {l : List S38} (h : cfgB l = true) : icR l = (true, true) := by
  have : fourB l = true := by
    unfold cfgB at h
    rw [Bool.and_eq_true] at h
    exact h.1
  unfold icR
  rw [if_pos this, h]
def curR (l : List S38) : List Int × Bool := if cfgB l = true then (l.map S38.f1, true) else ([], false)
theorem curI (l : List S38) : Ev (fun k => impl_CurvaturesOf.f k l) (curR l) := by
  have e3 := isConfig_ev l
  unfold impl_CurvaturesOf.f curR
  by_cases h : cfgB l = true
  · have e5 := curvI_l l (by rw [cfg_len h]; omega) l.length 0 [] (by omega) (by simp)
    simp only [List.drop_zero, List.nil_append] at e5
    rw [if_pos h]
    refine Ev.bind e3 ?_
    simp only [if_pos h]
    exact Ev.bind e5 (Ev.now _)
  · rw [if_neg h]
    refine Ev.bind e3 ?_
    simp only [if_neg h]
    exact Ev.now _
theorem curS (l : List S38) : Ev (fun k => spec_CurvaturesOf.f k l) (curR l) := by
  have e3 := ciConfig_ev l
  unfold spec_CurvaturesOf.f curR
  by_cases h : cfgB l = true
  · have e5 := curvS_l l (by rw [cfg_len h]; omega) l.length 0 [] (by omega) (by simp)
    simp only [List.drop_zero, List.nil_append] at e5
    rw [if_pos h]
    refine Ev.bind e3 ?_
    simp only [if_pos h]
    exact Ev.bind e5 (Ev.now _)
  · rw [if_neg h]
    refine Ev.bind e3 ?_
    simp only [if_neg h]
    exact Ev.now _
theorem cur_of {l : List S38} (h : cfgB l = true) : curR l = (l.map S38.f1, true) := if_pos h
theorem ic_cur (l : List S38) : (curR l).2 = (icR l).1 := by
  by_cases h : cfgB l = true
  · rw [cur_of h, ic_of h]
  · unfold curR icR
    rw [if_neg h]
    split
    · exact (Bool.eq_false_iff.2 h).symm
    · rfl
theorem cur_len (l : List S38) : (curR l).1.length ≤ 4 := by
  unfold curR
  split
  · rename_i h
    simp only [List.length_map, cfg_len h]
    omega
  · simp

end Go.Proofs.Ytmnjijobpejpgaa.P
