/- For every input the statement FnExactTouchingPairs holds of what the program and the reference compute, told as plain Lean functions; there is no further condition. -/
import Derived.Test.YtjnpopipdnaaiaaP0
import Derived.Test.YtjnpopipdnaaiaaP1
import Derived.Test.YtjnpopipdnaaiaaP3
import Derived.Test.YtjnpopipdnaaiaaP24
import Derived.Test.YtjnpopipdnaaiaaP25
import Derived.Test.YtjnpopipdnaaiaaP27
import Derived.Test.YtjnpopipdnaaiaaDevFnExactTouchingPairs
import Derived.Test.YtjnpopipdnaaiaaLeFnExactTouchingPairs
namespace Go.Proofs.Ytjnpopipdnaaiaa.Pure
open Go.RowKit Go.Proofs.Ytjnpopipdnaaiaa.P Go.Proofs.YtjnpopipdnaaiaaW.PrintWords Go.Proofs.YtjnpopipdnaaiaaW.PrintLast Go.Proofs.YtjnpopipdnaaiaaW.PrintMore

theorem cells_app (a b : List (List Int)) : cellsOf (a ++ b) = cellsOf a + cellsOf b := by
  induction a with
  | nil => simp [cellsOf]
  | cons x a ih => simp only [List.cons_append, cellsOf, ih]; omega
theorem tl_cells (c : S25) (l : List S25) : ∀ i j, cellsOf (tl c l i j) ≤ 2 * l.length := by
  induction l with
  | nil => intro i j; simp [tl, cellsOf]
  | cons d ds ih =>
    intro i j
    have := ih i (j + 1)
    simp only [tl, cells_app, List.length_cons]
    split <;> simp [cellsOf] <;> omega
theorem pairs_size (M : Nat) (l : List S25) : ∀ i, l.length ≤ M → (pairsOf l i).length ≤ l.length * M ∧ cellsOf (pairsOf l i) ≤ 2 * (l.length * M) := by
  induction l with
  | nil => intro i _; simp [pairsOf, cellsOf]
  | cons c cs ih =>
    intro i h
    simp only [List.length_cons] at h
    have h1 := ih (i + 1) (by omega)
    have h2 := tl_length c cs i (i + 1)
    have h3 := tl_cells c cs i (i + 1)
    simp only [pairsOf, List.length_append, cells_app, List.length_cons, Nat.add_mul, Nat.one_mul]
    omega
theorem tpS_2 (l : List S25) (n : Nat) (hn : l.length = n) (hn1 : n ≤ 100000) (hb : ∀ x ∈ l, bndC x) (i : Nat) (hi : i < n) (F : Nat)
    (hB : ∀ (k : Nat) (x6 : List (List Int)), F < k → x6.length + (n - (i + 1)) * n ≤ 1000000000000 → spec_TouchingPairs.l1 k l x6 l (n : Int) ((i + 1 : Nat) : Int) = some (x6 ++ pairsOf (l.drop (i + 1)) (i + 1), true)) (c : S25) (hc : bndC c) (d : Nat) :
    ∀ (j k : Nat) (x6 : List (List Int)), j + d = n → F + d + 1 < k → x6.length + d + (n - (i + 1)) * n ≤ 1000000000000 →
      spec_TouchingPairs.l2 k l x6 (i : Int) (j : Int) l (n : Int) (i : Int) c.f0 c.f1 c.f2 c.f3 = some (x6 ++ tl c (l.drop j) i j ++ pairsOf (l.drop (i + 1)) (i + 1), true) := by
  induction d with
  | zero =>
    intro j k x6 hj hk hx
    obtain ⟨k, rfl⟩ : ∃ m, k = m + 1 := ⟨k - 1, by omega⟩
    simp only [spec_TouchingPairs.l2]
    rw [if_neg (by omega), wrap_id (by omega) (by omega), List.drop_of_length_le (by omega), show ((i : Int) + 1) = ((i + 1 : Nat) : Int) by omega, hB k x6 (by omega) (by omega)]
    simp [tl]
  | succ d ih =>
    intro j k x6 hj hk hx
    obtain ⟨k, rfl⟩ : ∃ m, k = m + 1 := ⟨k - 1, by omega⟩
    have hjl : j < l.length := by omega
    simp only [spec_TouchingPairs.l2]
    rw [if_pos (by omega), if_pos (by omega), rdC_at hjl, ciTwice_f, twice_f hc (hb _ (List.getElem_mem hjl)), wrap_id (by omega) (by omega)]
    simp only [Option.bind_some]
    rw [List.drop_eq_getElem_cons hjl, tl, show ((j : Int) + 1) = ((j + 1 : Nat) : Int) by omega]
    by_cases ht : twi c l[j] = -2
    · rw [if_pos ht, if_pos (by omega), if_pos ht, ih (j + 1) k _ (by omega) (by omega) (by simp; omega)]
      simp
    · rw [if_neg ht, if_neg ht, ih (j + 1) k _ (by omega) (by omega) (by omega)]
      simp
theorem tpS_1 (l : List S25) (n : Nat) (hn : l.length = n) (hn1 : n ≤ 100000) (hb : ∀ x ∈ l, bndC x) (d : Nat) :
    ∀ (i k : Nat) (x6 : List (List Int)), i + d = n → d * (n + 3) < k → x6.length + (n - i) * n ≤ 1000000000000 → spec_TouchingPairs.l1 k l x6 l (n : Int) (i : Int) = some (x6 ++ pairsOf (l.drop i) i, true) := by
  induction d with
  | zero =>
    intro i k x6 hi hk hx
    obtain ⟨k, rfl⟩ : ∃ m, k = m + 1 := ⟨k - 1, by omega⟩
    simp only [spec_TouchingPairs.l1]
    rw [if_neg (by omega), List.drop_of_length_le (by omega)]
    simp [pairsOf]
  | succ d ih =>
    intro i k x6 hi hk hx
    obtain ⟨k, rfl⟩ : ∃ m, k = m + 1 := ⟨k - 1, by omega⟩
    have hil : i < l.length := by omega
    have e : (d + 1) * (n + 3) = d * (n + 3) + (n + 3) := by rw [Nat.add_mul]; omega
    have e2 : (n - i) * n = (n - (i + 1)) * n + n := by rw [show n - i = (n - (i + 1)) + 1 by omega, Nat.add_mul]; omega
    simp only [spec_TouchingPairs.l1]
    rw [if_pos (by omega), if_pos (by omega), if_pos (by omega), rdC_at hil, wrap_id (by omega) (by omega), show ((i : Int) + 1) = ((i + 1 : Nat) : Int) by omega]
    rw [tpS_2 l n hn hn1 hb i (by omega) (d * (n + 3)) (fun k x6 hk hx => ih (i + 1) k x6 (by omega) hk hx) l[i] (hb _ (List.getElem_mem hil)) (n - (i + 1)) (i + 1) k x6 (by omega) (by omega) (by omega)]
    rw [List.drop_eq_getElem_cons hil, pairsOf, List.append_assoc]
theorem tpS_0 (l : List S25) (hl : l.length ≤ 40) (d : Nat) : ∀ (i : Nat), i + d = l.length → ∀ R, ((l.drop i).all isC = true → Ev (fun k => spec_TouchingPairs.l1 k l [] l (l.length : Int) 0) R) → ((l.drop i).all isC = false → R = ([], false)) → Ev (fun k => spec_TouchingPairs.l0 k l l (l.length : Int) (i : Int)) R := by
  induction d with
  | zero =>
    intro i hi R h1 _
    rw [List.drop_of_length_le (by omega)] at h1
    refine Ev.step (f := fun k => spec_TouchingPairs.l1 k l [] l (l.length : Int) 0) (fun k => ?_) (h1 rfl)
    simp only [spec_TouchingPairs.l0]
    rw [if_neg (by omega)]
  | succ d ih =>
    intro i hi R h1 h2
    have hil : i < l.length := by omega
    have hg := ciGood_ev l[i].f0 l[i].f1 l[i].f2 l[i].f3
    rw [List.drop_eq_getElem_cons hil, List.all_cons] at h1 h2
    refine Ev.step (f := fun k => (spec_ciGood.f k l[i].f0 l[i].f1 l[i].f2 l[i].f3).bind fun t => if t = true then spec_TouchingPairs.l0 k l l (l.length : Int) ((i + 1 : Nat) : Int) else some ([], false)) (fun k => ?_) ?_
    · simp only [spec_TouchingPairs.l0]
      rw [if_pos (by omega), if_pos (by omega), if_pos (by omega), rdC_at hil, wrap_id (by omega) (by omega), show ((i : Int) + 1) = ((i + 1 : Nat) : Int) by omega]
    · refine Ev.bind hg ?_
      show Ev (fun k => if isC l[i] = true then _ else _) R
      cases hc : isC l[i] with
      | true =>
        rw [hc] at h1 h2
        simp only [Bool.true_and] at h1 h2
        simp only [if_true]
        exact ih (i + 1) (by omega) R h1 h2
      | false =>
        rw [hc] at h2
        rw [h2 (by simp)]
        simp only [Bool.false_eq_true, if_false]
        exact Ev.now _
def tpR (l : List S25) : List (List Int) × Bool := if l.length ≤ 40 ∧ l.all isC = true then (pairsOf l 0, true) else ([], false)
theorem tpS_ev (l : List S25) : Ev (fun k => spec_TouchingPairs.f k l) (tpR l) := by
  unfold spec_TouchingPairs.f tpR
  by_cases h : (l.length : Int) > 40
  · simp only [if_pos h, if_neg (show ¬ (l.length ≤ 40 ∧ l.all isC = true) by omega)]
    exact Ev.now _
  · have hl : l.length ≤ 40 := by omega
    simp only [if_neg h, hl, true_and]
    have h0 := tpS_0 l hl l.length 0 (by omega) (if l.all isC = true then (pairsOf l 0, true) else ([], false)) (fun hq => by
      rw [List.drop_zero] at hq
      rw [if_pos hq]
      refine Ev.from (l.length * (l.length + 3)) (fun k hk => ?_)
      have hm : l.length * l.length ≤ 40 * 40 := Nat.mul_le_mul hl hl
      have := tpS_1 l l.length rfl (by omega) (fun x hx => isC_bnd (List.all_eq_true.1 hq x hx)) l.length 0 k [] (by omega) hk (by simp; omega)
      simpa using this) (fun hq => by rw [List.drop_zero] at hq; rw [hq]; simp)
    exact h0
theorem tpI_ev (l : List S25) : Ev (fun k => impl_TouchingPairs.f k l) (tpR l) := by
  unfold impl_TouchingPairs.f tpR impl_areCircles.f
  by_cases h : (l.length : Int) > 40
  · simp only [if_pos h, if_neg (show ¬ (l.length ≤ 40 ∧ l.all isC = true) by omega)]
    exact Ev.now _
  · have hl : l.length ≤ 40 := by omega
    simp only [if_neg h, hl, true_and, Option.bind_some]
    cases hq : l.all isC with
    | false => simp only [Bool.false_eq_true, if_false]; exact Ev.now _
    | true =>
      simp only [if_true]
      exact Ev.bind (touching_ev l (by omega) (fun x hx => isC_bnd (List.all_eq_true.1 hq x hx))) (Ev.now _)
theorem FnExactTouchingPairs (l : List S23) (_ : l.length ≤ maxLen) (h32 : l.length * 32 ≤ 140737488351232) (_ : ∀ x ∈ l, (Lit.int .i64 x.f0).wf = true ∧ (Lit.int .i64 x.f1).wf = true ∧ (Lit.int .i64 x.f2).wf = true ∧ (Lit.int .i64 x.f3).wf = true) : ∃ k, laws_FnExactTouchingPairs.f k l = some true := by
  have hml : l.length ≤ 8796093022208 := by omega
  suffices h : Ev (fun k => laws_FnExactTouchingPairs.f k l) true by
    obtain ⟨K, h⟩ := h
    exact ⟨K, h K (Nat.le_refl _)⟩
  unfold laws_FnExactTouchingPairs.f
  rw [szCircleS_f l hml]
  simp only [Option.bind_some]
  by_cases hb : l.length ≤ 1048576
  · simp only [if_pos hb, if_neg (show ¬ (1048576 - (l.length : Int) < 0) by omega)]
    unfold laws_FnExactTouchingPairs.g
    have hll : (l.map toC).length = l.length := by simp
    refine Ev.bind (toCircleS_ev l hml) ?_
    refine Ev.bind (tpS_ev (l.map toC)) ?_
    refine Ev.bind (tpI_ev (l.map toC)) ?_
    simp only [if_true]
    refine Ev.bind (eqCircleS_ev (l.map toC) (by omega)) ?_
    simp only [if_true]
    refine Ev.bind (markCircleS_ev (l.map toC) (by omega)) ?_
    simp only [if_neg (show ¬ (1 + 4 * ((l.map toC).length : Int) < 0) by omega)]
    have hsz : ((tpR (l.map toC)).1.length : Int) ≤ 9223372036854775806 ∧ (cellsOf (tpR (l.map toC)).1 : Int) + 1 ≤ 4611686018427387904 := by
      unfold tpR
      split
      · rename_i h
        have hs := pairs_size 40 (l.map toC) 0 h.1
        have hm : (l.map toC).length * 40 ≤ 40 * 40 := Nat.mul_le_mul h.1 (Nat.le_refl _)
        simp only
        omega
      · simp [cellsOf]
    simp only [if_pos hsz]
    exact Ev.now _
  · simp only [if_neg hb, if_pos (show (-1 : Int) < 0 by omega)]
    exact Ev.now _

end Go.Proofs.Ytjnpopipdnaaiaa.Pure
