import Derived.Test.YtgigkjcfnngdmaaP1
import Derived.Test.YtgigkjcfnngdmaaP2
import Derived.Test.YtgigkjcfnngdmaaP3
import Derived.Test.YtgigkjcfnngdmaaP4
import Derived.Test.YtgigkjcfnngdmaaP9
import Derived.Test.YtgigkjcfnngdmaaP11
import Derived.Test.YtgigkjcfnngdmaaP12
import Derived.Test.YtgigkjcfnngdmaaP17
import Derived.Test.YtgigkjcfnngdmaaP18
import Derived.Test.YtgigkjcfnngdmaaP19
namespace Go.Proofs.Ytgigkjcfnngdmaa.P
open Go.RowKit Go.Proofs.YtgigkjcfnngdmaaW.PrintWords Go.Proofs.YtgigkjcfnngdmaaW.PrintLast Go.Proofs.YtgigkjcfnngdmaaW.PrintMore
theorem wrap_id {x : Int} (h0 : -9223372036854775808 ≤ x) (h1 : x ≤ 9223372036854775807) : wrap64 x = x := by unfold wrap64; omega
theorem mulb {a b A B : Int} (h0 : 0 ≤ a) (h1 : a ≤ A) (h2 : 0 ≤ b) (h3 : b ≤ B) : 0 ≤ a * b ∧ a * b ≤ A * B :=
  ⟨Int.mul_nonneg h0 h2, Int.mul_le_mul h1 h3 h2 (by omega)⟩
theorem l1In_f (x lo hi : Int) : spec_l1In.f x lo hi = some (decide (lo ≤ x ∧ x ≤ hi)) := by
  unfold spec_l1In.f
  by_cases h : x ≥ lo
  · rw [if_pos h]; simp [show lo ≤ x from h]
  · rw [if_neg h]; simp [show ¬ lo ≤ x from h]
theorem within_f (x lo hi : Int) : impl_within.f x lo hi = some (decide (lo ≤ x ∧ x ≤ hi)) := by
  unfold impl_within.f
  by_cases h : x ≥ lo
  · rw [if_pos h]; simp [show lo ≤ x from h]
  · rw [if_neg h]; simp [show ¬ lo ≤ x from h]
def JuGiven (k c : Int) : Prop := 1 ≤ k ∧ k ≤ 1000 ∧ -1000 ≤ c ∧ c ≤ 1000
instance (k c : Int) : Decidable (JuGiven k c) := by unfold JuGiven; infer_instance
theorem juGiven_f (k c : Int) : spec_juGiven.f k c = some (decide (JuGiven k c)) := by
  unfold spec_juGiven.f JuGiven
  simp only [l1In_f, Option.bind_some]
  by_cases h : 1 ≤ k ∧ k ≤ 1000
  · simp [h]
  · simp [h]; exact decide_eq_false (fun g => h ⟨g.1, g.2.1⟩)
def JuPair (x y k c : Int) : Prop := 0 ≤ y ∧ y ≤ x ∧ x ≤ 1000000 ∧ x * x + y * y + c = k * x * y
instance (x y k c : Int) : Decidable (JuPair x y k c) := by unfold JuPair; infer_instance
theorem good_eq {x y k c : Int} (hg : JuGiven k c) (h0 : 0 ≤ y) (h1 : y ≤ x) (h2 : x ≤ 1000000) :
    ((wrap64 ((wrap64 ((wrap64 (x * x)) + (wrap64 (y * y)))) + c)) == (wrap64 ((wrap64 (k * x)) * y))) = decide (x * x + y * y + c = k * x * y) := by
  obtain ⟨k1, k2, c1, c2⟩ := hg
  have a := mulb (show 0 ≤ x by omega) h2 (show 0 ≤ x by omega) h2
  have b := mulb h0 (show y ≤ 1000000 by omega) h0 (show y ≤ 1000000 by omega)
  have d := mulb (show 0 ≤ k by omega) k2 (show 0 ≤ x by omega) h2
  have e := mulb d.1 d.2 h0 (show y ≤ 1000000 by omega)
  rw [wrap_id (x := x * x) (by omega) (by omega), wrap_id (x := y * y) (by omega) (by omega), wrap_id (x := x * x + y * y) (by omega) (by omega), wrap_id (x := x * x + y * y + c) (by omega) (by omega), wrap_id (x := k * x) (by omega) (by omega), wrap_id (x := k * x * y) (by omega) (by omega)]
  rfl
theorem juGood_f {x y k c : Int} (hg : JuGiven k c) : spec_juGood.f x y k c = some (decide (JuPair x y k c)) := by
  unfold spec_juGood.f JuPair
  simp only [l1In_f, Option.bind_some]
  by_cases h : 0 ≤ x ∧ x ≤ 1000000
  · by_cases h' : 0 ≤ y ∧ y ≤ x
    · simp [h, h', good_eq hg h'.1 h'.2 h.2]
    · simp [h, h']; intro g1 g2; exact absurd ⟨g1, g2⟩ h'
  · simp [h]; exact decide_eq_false (fun g => h ⟨by omega, g.2.2.1⟩)
theorem kOfPair_law (x y c : Int) : laws_FnExactKOfPair.f 1 x y c = some true := by
  unfold laws_FnExactKOfPair.f spec_KOfPair.f impl_KOfPair.f
  simp only [l1In_f, within_f, Option.bind_some]
  by_cases hx : (1 ≤ x ∧ x ≤ 1000000) ∧ (1 ≤ y ∧ y ≤ x) ∧ (-1000 ≤ c ∧ c ≤ 1000)
  · obtain ⟨hx, hy, hc⟩ := hx
    have hy' : 1 ≤ y ∧ y ≤ 1000000 := by omega
    have hx' : y ≤ x ∧ x ≤ 1000000 := by omega
    have a := mulb (show 0 ≤ x by omega) hx.2 (show 0 ≤ x by omega) hx.2
    have b := mulb (show 0 ≤ y by omega) hy'.2 (show 0 ≤ y by omega) hy'.2
    have d := mulb (show 0 ≤ x by omega) hx.2 (show 0 ≤ y by omega) hy'.2
    have dp : 1 ≤ x * y := by
      have := Int.mul_le_mul (show 1 ≤ x by omega) (show 1 ≤ y by omega) (by omega) (show 0 ≤ x by omega)
      omega
    simp only [hx, hy, hc, hy', hx', and_self, decide_true, if_true, Bool.not_true]
    simp only [spec_KOfPair.j0, impl_kOf.f, within_f, juGiven_f, Option.bind_some]
    rw [wrap_id (x := x * x) (by omega) (by omega), wrap_id (x := y * y) (by omega) (by omega), wrap_id (x := x * x + y * y) (by omega) (by omega), wrap_id (x := x * x + y * y + c) (by omega) (by omega), wrap_id (x := x * y) (by omega) (by omega)]
    have hne : ¬ (x * y = 0) := by omega
    simp only [hne, if_false, Bool.false_eq_true]
    generalize hs : x * x + y * y + c = s
    have hsb : -1000 ≤ s ∧ s ≤ 2000000001000 := by omega
    have hq := Int.mul_tdiv_add_tmod s (x * y)
    generalize hm : s.tmod (x * y) = m at hq ⊢
    have hql : -2000000001000 ≤ s.tdiv (x * y) ∧ s.tdiv (x * y) ≤ 2000000001000 := by
      have h1 := Int.natAbs_tdiv_le_natAbs s (x * y)
      omega
    generalize hk : s.tdiv (x * y) = k at hq hql ⊢
    rw [wrap_id (x := k) (by omega) (by omega)]
    have hcomm : k * x * y = x * y * k := by rw [Int.mul_assoc, Int.mul_comm]
    by_cases g : JuGiven k c
    · have gk : 1 ≤ k ∧ k ≤ 1000 := ⟨g.1, g.2.1⟩
      simp only [g, gk, and_self, decide_true, if_true, juGood_f g, Option.bind_some]
      by_cases hm0 : m = 0
      · have hj : JuPair x y k c := ⟨by omega, by omega, by omega, by omega⟩
        simp [hj, hm0]
      · have hj : ¬ JuPair x y k c := fun h => hm0 (by have := h.2.2.2; omega)
        simp [hj, hm0]
    · have gk : ¬ (1 ≤ k ∧ k ≤ 1000) := fun h => g ⟨h.1, h.2, hc.1, hc.2⟩
      simp only [g, gk, decide_false]
      by_cases hm0 : m = 0 <;> simp [hm0]
  · have e1 : (if decide (1 ≤ x ∧ x ≤ 1000000) = true then (if decide (1 ≤ y ∧ y ≤ x) = true then spec_KOfPair.j0 1 x y c (!decide (-1000 ≤ c ∧ c ≤ 1000)) else spec_KOfPair.j0 1 x y c true) else spec_KOfPair.j0 1 x y c true) = some (0, false) := by
      by_cases h1 : 1 ≤ x ∧ x ≤ 1000000
      · by_cases h2 : 1 ≤ y ∧ y ≤ x
        · have h3 : ¬ (-1000 ≤ c ∧ c ≤ 1000) := fun h3 => hx ⟨h1, h2, h3⟩
          simp [h1, h2, h3, spec_KOfPair.j0]
        · simp [h1, h2, spec_KOfPair.j0]
      · simp [h1, spec_KOfPair.j0]
    rw [e1]
    by_cases h1 : 1 ≤ y ∧ y ≤ 1000000
    · by_cases h2 : y ≤ x ∧ x ≤ 1000000
      · have h3 : ¬ (-1000 ≤ c ∧ c ≤ 1000) := fun h3 => hx ⟨by omega, by omega, h3⟩
        simp [h1, h2, h3]
      · simp [h1, h2]
    · simp [h1]
theorem Ev.from {α : Type} {g : Nat → Option α} {r : α} (K : Nat) (h : ∀ k, K < k → g k = some r) : Ev g r := ⟨K + 1, fun k hk => h k (by omega)⟩
theorem eqIntS_ev (l : List Int) (hl : (l.length : Int) ≤ 9223372036854775806) : Ev (fun k => laws_eqIntS.f k l l) true := Ev.from l.length (fun k hk => eqIntS_refl l hl k hk)
theorem markIntS_ev (l : List Int) (hl : (l.length : Int) ≤ 4611686018427387904) : Ev (fun k => laws_markIntS.f k l 1) (1 + (l.length : Int), mkI 1 l.length) := Ev.from l.length (fun k hk => markIntS_f l 1 k hk (by omega) (by omega) (by omega))
theorem heldIntS_ev (n : Nat) (hn : (n : Int) ≤ 4611686018427387904) : Ev (fun k => laws_heldIntS.f k (mkI 1 n) 1) (1 + (n : Int)) := Ev.from n (fun k hk => heldIntS_f 1 n k hk (by omega) (by omega) (by omega))
theorem rdi_at {l : List Int} {i : Nat} (h : i < l.length) : rd l (i : Int) = l[i] := by simp [rd, List.getD_eq_getElem?_getD, List.getElem?_eq_getElem h]
theorem kOf_both (x y c : Int) (hx : 1 ≤ x) (hx2 : x ≤ 200) (hy : 1 ≤ y) (hy2 : y ≤ x) (hc : -1000 ≤ c ∧ c ≤ 1000) : ∃ k b, impl_kOf.f x y c = some (k, b) ∧ (b = true → 1 ≤ k ∧ k ≤ 1000) ∧ Ev (fun n => spec_KOfPair.f n x y c) (k, b) := by
  obtain ⟨k, b, hk, hb⟩ := kOf_some x y c hx hx2 hy (by omega)
  refine ⟨k, b, hk, hb, ?_⟩
  have hl := kOfPair_law x y c
  have hi : impl_KOfPair.f x y c = some (k, b) := by
    unfold impl_KOfPair.f
    simp only [within_f, Option.bind_some]
    rw [if_pos (decide_eq_true (by omega)), if_pos (decide_eq_true (by omega)), if_pos (decide_eq_true hc), hk]
    rfl
  unfold laws_FnExactKOfPair.f at hl
  obtain ⟨⟨s1, s2⟩, hs, hl⟩ := Option.bind_eq_some_iff.mp hl
  rw [hi, Option.bind_some] at hl
  dsimp only at hl
  split at hl
  · rename_i he
    split at hl
    · cases hl
    · rename_i hn
      have e2 : b = s2 := by cases b <;> cases s2 <;> simp at hn ⊢
      subst e2
      subst he
      exact Ev.of (fun n => spec_KOfPair.mono _ _ _ n) hs
  · cases hl
/-- Insertion into an increasing list. -/
def putI (n : Int) : List Int → List Int
  | [] => [n]
  | x :: r => if x < n then x :: putI n r else if x = n then x :: r else n :: x :: r
theorem l1Put_l (l : List Int) (n : Int) (hl : l.length ≤ 100000) (d : Nat) : ∀ (i k : Nat), i + d = l.length → d < k → spec_l1Put.l0 k l n (i : Int) = some (l.take i ++ putI n (l.drop i)) := by
  induction d with
  | zero =>
    intro i k hi hk
    obtain ⟨k, rfl⟩ : ∃ m, k = m + 1 := ⟨k - 1, by omega⟩
    simp only [spec_l1Put.l0, Option.bind_some]
    rw [if_neg (by omega), if_pos (by omega), if_pos (by omega), if_pos (by simp; omega), if_pos (by simp; omega), if_pos (by simp; omega)]
    simp only [Int.toNat_natCast, List.nil_append]
    rw [List.drop_eq_nil_of_le (by omega)]
    simp [putI]
  | succ d ih =>
    intro i k hi hk
    obtain ⟨k, rfl⟩ : ∃ m, k = m + 1 := ⟨k - 1, by omega⟩
    have hil : i < l.length := by omega
    simp only [spec_l1Put.l0, Option.bind_some]
    rw [if_pos (by omega), if_pos (by omega), rdi_at hil, List.drop_eq_getElem_cons hil]
    simp only [putI]
    by_cases h1 : l[i] < n
    · rw [if_pos h1, if_pos h1, wrap_id (by omega) (by omega)]
      have := ih (i + 1) k (by omega) (by omega)
      rw [show ((i + 1 : Nat) : Int) = (i : Int) + 1 by omega] at this
      rw [this, List.take_succ_eq_append_getElem hil, List.append_assoc]
      rfl
    · rw [if_neg h1, if_neg h1]
      by_cases h2 : l[i] = n
      · rw [if_pos h2, if_pos h2, ← List.drop_eq_getElem_cons hil, List.take_append_drop]
      · rw [if_neg h2, if_neg h2, if_pos (by omega), if_pos (by simp; omega), if_pos (by simp; omega), if_pos (by simp; omega)]
        simp only [Int.toNat_natCast, List.nil_append]
        rw [← List.drop_eq_getElem_cons hil]
        simp
theorem l1Put_ev (l : List Int) (n : Int) (hl : l.length ≤ 100000) : Ev (fun k => spec_l1Put.f k l n) (putI n l) :=
  Ev.from l.length (fun k hk => by
    have := l1Put_l l n hl l.length 0 k (by omega) hk
    simpa [spec_l1Put.f] using this)
theorem putI_head (n : Int) (l : List Int) (h : ∀ x ∈ l, n < x) : putI n l = n :: l := by
  cases l with
  | nil => rfl
  | cons x r =>
    have := h x (by simp)
    simp only [putI]
    rw [if_neg (by omega), if_neg (by omega)]
theorem ksSel_ge (L : List Bool) : ∀ (i x : Int), x ∈ ksSel i L → i ≤ x := by
  induction L with
  | nil => intro i x h; simp [ksSel] at h
  | cons b r ih =>
    intro i x h
    simp only [ksSel] at h
    cases b with
    | false =>
      have := ih (i + 1) x (by simpa using h)
      omega
    | true =>
      simp at h
      rcases h with rfl | h
      · omega
      · have := ih (i + 1) x h
        omega
theorem putI_sel (L : List Bool) : ∀ (i : Int) (m : Nat), m < L.length → putI (i + m) (ksSel i L) = ksSel i (L.set m true) := by
  induction L with
  | nil => intro i m h; simp at h
  | cons b r ih =>
    intro i m h
    cases m with
    | zero =>
      have hh : putI i (ksSel (i + 1) r) = i :: ksSel (i + 1) r := putI_head _ _ (fun x hx => by have := ksSel_ge r _ _ hx; omega)
      cases b with
      | false => simpa [ksSel] using hh
      | true => simp [ksSel, putI]
    | succ m =>
      have hm := ih (i + 1) m (by simpa using h)
      rw [show i + 1 + (m : Int) = i + ((m + 1 : Nat) : Int) by omega] at hm
      cases b with
      | false => simpa [ksSel] using hm
      | true =>
        simp only [List.set_cons_succ, ksSel, if_true, putI]
        rw [if_pos (by omega), hm]
theorem ksSel_len (L : List Bool) : ∀ i, (ksSel i L).length ≤ L.length := by
  induction L with
  | nil => intro i; simp [ksSel]
  | cons b r ih =>
    intro i
    have := ih (i + 1)
    simp only [ksSel]
    cases b <;> simp <;> omega
theorem ksIn_ev (c most x : Int) (hx : 1 ≤ x) (hx2 : x ≤ 200) (hc : -1000 ≤ c ∧ c ≤ 1000) (R : List Int × Bool) (d : Nat) : ∀ (y : Int) (L : List Bool), 1 ≤ y → y + d = x + 1 → L.length = 1001 →
    Ev (fun k => spec_KsUpTo.l0 k c most (ksSel 0 (ksIn c x y d L)) (x + 1)) R → Ev (fun k => spec_KsUpTo.l1 k c most (ksSel 0 L) x y) R := by
  induction d with
  | zero =>
    intro y L hy hd hL h
    refine Ev.step (fun _ => spec_KsUpTo.l1.eq_2 ..) ?_
    simp only [show ¬ y ≤ x by omega, if_false, wrap_id (show -9223372036854775808 ≤ x + 1 by omega) (by omega)]
    exact h
  | succ d ih =>
    intro y L hy hd hL h
    obtain ⟨k, b, hk, hb, hs⟩ := kOf_both x y c hx hx2 hy (by omega) hc
    refine Ev.step (fun _ => spec_KsUpTo.l1.eq_2 ..) ?_
    simp only [show y ≤ x by omega, if_true, wrap_id (show -9223372036854775808 ≤ y + 1 by omega) (by omega)]
    refine Ev.bind hs ?_
    have hst : ksStep c x y L = if b = true then L.set k.toNat true else L := by
      unfold ksStep
      rw [hk]
      cases b <;> rfl
    simp only [ksIn] at h
    cases b with
    | false =>
      rw [hst] at h
      simp only [Bool.false_eq_true, if_false] at h ⊢
      exact ih (y + 1) L (by omega) (by omega) hL h
    | true =>
      obtain ⟨k0, k1⟩ := hb rfl
      rw [hst] at h
      simp only [if_true] at h ⊢
      have hp := putI_sel L 0 k.toNat (by omega)
      rw [show (0 : Int) + (k.toNat : Int) = k by omega] at hp
      have hlen := ksSel_len L 0
      have hq := l1Put_ev (ksSel 0 L) k (by omega)
      rw [hp] at hq
      refine Ev.bind hq ?_
      exact ih (y + 1) (L.set k.toNat true) (by omega) (by omega) (by simpa using hL) h
theorem ksOut_ev (c most : Int) (hm2 : most ≤ 200) (hc : -1000 ≤ c ∧ c ≤ 1000) (d : Nat) : ∀ (x : Int) (L : List Bool), 1 ≤ x → x + d = most + 1 → L.length = 1001 →
    Ev (fun k => spec_KsUpTo.l0 k c most (ksSel 0 L) x) (ksSel 0 (ksOut c x d L), true) := by
  induction d with
  | zero =>
    intro x L hx hd hL
    refine Ev.step (fun _ => spec_KsUpTo.l0.eq_2 ..) ?_
    simp only [show ¬ x ≤ most by omega, if_false, ksOut]
    exact Ev.now _
  | succ d ih =>
    intro x L hx hd hL
    refine Ev.step (fun _ => spec_KsUpTo.l0.eq_2 ..) ?_
    simp only [show x ≤ most by omega, if_true, ksOut]
    exact ksIn_ev c most x hx (by omega) hc _ x.toNat 1 L (by omega) (by omega) hL (ih (x + 1) _ (by omega) (by omega) (by rw [ksIn_len]; exact hL))
theorem ksB_eq (x lo hi : Int) : ksB x lo hi = decide (lo ≤ x ∧ x ≤ hi) := by
  unfold ksB
  rw [within_f]
  rfl
theorem ksR_ev (c most : Int) : Ev (fun k => spec_KsUpTo.f k c most) (ksR c most) := by
  have hz : ksSel 0 (List.replicate 1001 false) = [] := by kernel_rfl
  have hz2 : (List.replicate 1001 false).length = 1001 := List.length_replicate
  unfold spec_KsUpTo.f ksR
  generalize List.replicate 1001 false = L0 at hz hz2 ⊢
  have ht : spec_juTask.f 1 c most = some (decide ((-1000 ≤ c ∧ c ≤ 1000) ∧ (0 ≤ most ∧ most ≤ 200))) := by
    unfold spec_juTask.f spec_juGiven.f
    simp only [l1In_f, Option.bind_some]
    by_cases h1 : -1000 ≤ c ∧ c ≤ 1000 <;> by_cases h2 : 0 ≤ most ∧ most ≤ 200 <;> simp [h1, h2]
  simp only [ht, Option.bind_some, ksB_eq]
  by_cases h1 : -1000 ≤ c ∧ c ≤ 1000
  · by_cases h2 : 0 ≤ most ∧ most ≤ 200
    · simp only [h1, h2, and_self, decide_true, if_true]
      have := ksOut_ev c most h2.2 h1 most.toNat 1 L0 (by omega) (by omega) hz2
      rw [hz] at this
      exact this
    · simp only [h1, h2, and_false, decide_false, Bool.false_eq_true, if_false, and_self, decide_true, if_true]
      exact Ev.now _
  · simp only [h1, false_and, decide_false, Bool.false_eq_true, if_false]
    exact Ev.now _
theorem ksOut_len (c : Int) (d : Nat) : ∀ x L, (ksOut c x d L).length = L.length := by
  induction d with
  | zero => intro x L; rfl
  | succ d ih => intro x L; simp only [ksOut]; rw [ih, ksIn_len]
theorem ksR_len (c most : Int) : (ksR c most).1.length ≤ 1001 := by
  have hz2 : (List.replicate 1001 false).length = 1001 := List.length_replicate
  unfold ksR
  generalize List.replicate 1001 false = L0 at hz2 ⊢
  split
  · split
    · have h1 := ksSel_len (ksOut c 1 most.toNat L0) 0
      rw [ksOut_len, hz2] at h1
      exact h1
    · simp
  · simp

end Go.Proofs.Ytgigkjcfnngdmaa.P
