import Derived.Test.YtjnpopipdnaaiaaP0
import Derived.Test.YtjnpopipdnaaiaaP5
import Derived.Test.YtjnpopipdnaaiaaP6
namespace Go.Proofs.Ytjnpopipdnaaiaa.P
open Go.RowKit Go.Proofs.YtjnpopipdnaaiaaW.PrintWords Go.Proofs.YtjnpopipdnaaiaaW.PrintLast Go.Proofs.YtjnpopipdnaaiaaW.PrintMore
theorem wrap_id {x : Int} (h0 : -9223372036854775808 ≤ x) (h1 : x ≤ 9223372036854775807) : wrap64 x = x := by unfold wrap64; omega
theorem Ev.from {α : Type} {g : Nat → Option α} {r : α} (K : Nat) (h : ∀ k, K < k → g k = some r) : Ev g r := ⟨K + 1, fun k hk => h k (by omega)⟩
theorem eqCircle_f (a b c d : Int) : laws_eqCircle.f a b c d a b c d = some true := by
  unfold laws_eqCircle.f
  simp
def mkC : Int → Nat → List S25
  | _, 0 => []
  | m, n + 1 => ⟨m, m + 1, m + 2, m + 3⟩ :: mkC (m + 4) n
theorem mkC_length (n : Nat) : ∀ m, (mkC m n).length = n := by
  induction n with
  | zero => intro m; rfl
  | succ n ih => intro m; simp [mkC, ih]
theorem rdC_at {l : List S25} {i : Nat} (h : i < l.length) : rd_T25 l (i : Int) = l[i] := by simp [rd_T25, List.getD_eq_getElem?_getD, List.getElem?_eq_getElem h]
theorem eqCircleS_l (l : List S25) (hl : (l.length : Int) ≤ 9223372036854775806) (d : Nat) : ∀ (i : Nat) (k : Nat), i + d = l.length → d < k → laws_eqCircleS.l0 k l l (i : Int) = some true := by
  induction d with
  | zero =>
    intro i k hi hk
    obtain ⟨k, rfl⟩ : ∃ m, k = m + 1 := ⟨k - 1, by omega⟩
    simp only [laws_eqCircleS.l0]
    rw [if_neg (by omega)]
  | succ d ih =>
    intro i k hi hk
    obtain ⟨k, rfl⟩ : ∃ m, k = m + 1 := ⟨k - 1, by omega⟩
    simp only [laws_eqCircleS.l0]
    rw [if_pos (by omega), if_pos (by omega), if_pos (by omega), eqCircle_f, wrap_id (by omega) (by omega)]
    simp only [Option.bind_some, if_true]
    exact ih (i + 1) k (by omega) (by omega)
theorem eqCircleS_refl (l : List S25) (hl : (l.length : Int) ≤ 9223372036854775806) (k : Nat) (hk : l.length < k) : laws_eqCircleS.f k l l = some true := by
  unfold laws_eqCircleS.f
  rw [if_pos rfl]
  exact eqCircleS_l l hl l.length 0 k (by omega) hk
theorem eqCircleS_ev (l : List S25) (hl : (l.length : Int) ≤ 9223372036854775806) : Ev (fun k => laws_eqCircleS.f k l l) true := Ev.from l.length (fun k hk => eqCircleS_refl l hl k hk)
theorem markCircleS_l (d : Nat) : ∀ (i : Nat) (k : Nat) (x0 : List S25) (x1 : Int), i + d = x0.length → d < k → (x0.length : Int) ≤ 1152921504606846976 → 0 ≤ x1 → x1 + 4 * d ≤ 9223372036854775800 →
    laws_markCircleS.l0 k x0 x1 (i : Int) = some (x1 + 4 * d, x0.take i ++ mkC x1 d) := by
  induction d with
  | zero =>
    intro i k x0 x1 hi hk _ _ _
    obtain ⟨k, rfl⟩ : ∃ m, k = m + 1 := ⟨k - 1, by omega⟩
    simp only [laws_markCircleS.l0]
    rw [if_neg (by omega), List.take_of_length_le (by omega)]
    simp [mkC]
  | succ d ih =>
    intro i k x0 x1 hi hk h1 h2 h3
    obtain ⟨k, rfl⟩ : ∃ m, k = m + 1 := ⟨k - 1, by omega⟩
    have hil : i < x0.length := by omega
    simp only [laws_markCircleS.l0]
    rw [if_pos (by omega), if_pos (by omega), wrap_id (x := x1 + 1) (by omega) (by omega), wrap_id (x := x1 + 1 + 1) (by omega) (by omega), wrap_id (x := x1 + 1 + 1 + 1) (by omega) (by omega), wrap_id (x := x1 + 1 + 1 + 1 + 1) (by omega) (by omega), wrap_id (x := (i : Int) + 1) (by omega) (by omega)]
    simp only [Option.bind_some, Int.toNat_natCast]
    have e2 : ∀ (l : List S25) (y : S25), i < l.length → rd_T25 (l.set i y) (i : Int) = y := fun l y h => by
      rw [rdC_at (by simpa using h)]
      simp
    rw [e2 _ _ hil]
    simp only [List.set_set]
    rw [e2 _ _ hil]
    simp only [List.set_set]
    rw [e2 _ _ hil]
    simp only [List.set_set]
    have := ih (i + 1) k (x0.set i ⟨x1, x1 + 1, x1 + 1 + 1, x1 + 1 + 1 + 1⟩) (x1 + 1 + 1 + 1 + 1) (by simp; omega) (by omega) (by simp; omega) (by omega) (by omega)
    rw [show ((i : Int) + 1) = ((i + 1 : Nat) : Int) by omega, this]
    congr 1
    refine Prod.ext (by simp only; omega) ?_
    simp only [mkC]
    rw [List.take_succ_eq_append_getElem (by simp; omega), List.take_set, List.set_eq_of_length_le (by simp; omega)]
    simp only [List.getElem_set_self, List.append_assoc, List.singleton_append]
    rw [show x1 + 1 + 1 = x1 + 2 by omega, show x1 + 2 + 1 = x1 + 3 by omega, show x1 + 3 + 1 = x1 + 4 by omega]
theorem markCircleS_f (l : List S25) (m : Int) (k : Nat) (hk : l.length < k) (h1 : (l.length : Int) ≤ 1152921504606846976) (h2 : 0 ≤ m) (h3 : m + 4 * l.length ≤ 9223372036854775800) : laws_markCircleS.f k l m = some (m + 4 * l.length, mkC m l.length) := by
  unfold laws_markCircleS.f
  have := markCircleS_l l.length 0 k l m (by omega) hk h1 h2 h3
  simpa using this
theorem markCircleS_ev (l : List S25) (h1 : (l.length : Int) ≤ 1152921504606846976) : Ev (fun k => laws_markCircleS.f k l 1) (1 + 4 * (l.length : Int), mkC 1 l.length) := Ev.from l.length (fun k hk => markCircleS_f l 1 k hk h1 (by omega) (by omega))
theorem heldCircleS_l (d : Nat) : ∀ (i : Nat) (k : Nat) (x0 : List S25) (x1 : Int), i + d = x0.length → x0.drop i = mkC x1 d → d < k → (x0.length : Int) ≤ 1152921504606846976 → 0 ≤ x1 → x1 + 4 * d ≤ 9223372036854775800 →
    laws_heldCircleS.l0 k x0 x1 (i : Int) = some (x1 + 4 * d) := by
  induction d with
  | zero =>
    intro i k x0 x1 hi _ hk _ _ _
    obtain ⟨k, rfl⟩ : ∃ m, k = m + 1 := ⟨k - 1, by omega⟩
    simp only [laws_heldCircleS.l0]
    rw [if_neg (by omega)]
    simp
  | succ d ih =>
    intro i k x0 x1 hi hx hk h1 h2 h3
    obtain ⟨k, rfl⟩ : ∃ m, k = m + 1 := ⟨k - 1, by omega⟩
    have hil : i < x0.length := by omega
    rw [List.drop_eq_getElem_cons hil, mkC] at hx
    injection hx with hx0 hx1
    simp only [laws_heldCircleS.l0]
    rw [if_pos (by omega), if_pos (by omega), rdC_at hil, hx0, wrap_id (x := x1 + 1) (by omega) (by omega), wrap_id (x := x1 + 1 + 1) (by omega) (by omega), wrap_id (x := x1 + 1 + 1 + 1) (by omega) (by omega), wrap_id (x := x1 + 1 + 1 + 1 + 1) (by omega) (by omega), wrap_id (x := (i : Int) + 1) (by omega) (by omega)]
    rw [if_pos rfl, if_pos rfl, if_pos (by simp only; omega), if_pos (by simp only; omega)]
    have := ih (i + 1) k x0 (x1 + 1 + 1 + 1 + 1) (by omega) (by rw [hx1, show x1 + 4 = x1 + 1 + 1 + 1 + 1 by omega]) (by omega) h1 (by omega) (by omega)
    rw [show ((i : Int) + 1) = ((i + 1 : Nat) : Int) by omega, this]
    congr 1
    omega
theorem heldCircleS_ev (n : Nat) (h1 : (n : Int) ≤ 1152921504606846976) : Ev (fun k => laws_heldCircleS.f k (mkC 1 n) 1) (1 + 4 * (n : Int)) := Ev.from n (fun k hk => by
  unfold laws_heldCircleS.f
  have := heldCircleS_l n 0 k (mkC 1 n) 1 (by simp [mkC_length]) (by simp) hk (by simp [mkC_length]; omega) (by omega) (by omega)
  simpa using this)
end Go.Proofs.Ytjnpopipdnaaiaa.P
