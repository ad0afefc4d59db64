/- For every input the statement FnRootQuads holds of what the program and the reference compute, told as plain Lean functions; there is no further condition. -/
import Derived.Test.YtgjgoeodhioeiaaP0
import Derived.Test.YtgjgoeodhioeiaaP1
import Derived.Test.YtgjgoeodhioeiaaP2
import Derived.Test.YtgjgoeodhioeiaaP8
import Derived.Test.YtgjgoeodhioeiaaP10
import Derived.Test.YtgjgoeodhioeiaaP11
import Derived.Test.YtgjgoeodhioeiaaP13
import Derived.Test.YtgjgoeodhioeiaaP14
import Derived.Test.YtgjgoeodhioeiaaP15
import Derived.Test.YtgjgoeodhioeiaaLeFnRootQuads
import Derived.Laws.BitsAllLaws
namespace Go.Proofs.Ytgjgoeodhioeiaa.Pure
open Go.RowKit Go.Proofs.Ytgjgoeodhioeiaa.P Go.Proofs.YtgjgoeodhioeiaaW.PrintWords Go.Proofs.YtgjgoeodhioeiaaW.PrintLast Go.Proofs.YtgjgoeodhioeiaaW.PrintMore

theorem rootsI_ev (n : Int) : Ev (fun k => impl_RootsWith.f k n) (if 1 ≤ n ∧ n ≤ 30 then (tab n.toNat, true) else ([], false)) := by
  by_cases h : 1 ≤ n ∧ n ≤ 30
  · rw [if_pos h]
    obtain ⟨m, rfl⟩ : ∃ m : Nat, n = m := ⟨n.toNat, by omega⟩
    obtain ⟨h1, h2, h3, h4⟩ := tab_all m (by omega) (by omega)
    refine Ev.of (fun k => impl_RootsWith.mono _ k) (k := 4000) ?_
    unfold impl_RootsWith.f
    rw [within_f, inB_of h]
    simp only [Option.bind_some, if_true, h2, slices_Clone_int_int_19.f, Int.toNat_natCast]
    rw [if_pos (by omega)]
    rfl
  · rw [if_neg h]
    unfold impl_RootsWith.f
    simp only [within_f, inB_not h, Option.bind_some, Bool.false_eq_true, if_false]
    exact Ev.now _
theorem rootsS_ev (n : Int) : Ev (fun k => spec_RootsWith.f k n) (if 1 ≤ n ∧ n ≤ 30 then (tab n.toNat, true) else ([], false)) := by
  by_cases h : 1 ≤ n ∧ n ≤ 30
  · rw [if_pos h]
    obtain ⟨m, rfl⟩ : ∃ m : Nat, n = m := ⟨n.toNat, by omega⟩
    obtain ⟨h1, h2, h3, h4⟩ := tab_all m (by omega) (by omega)
    refine Ev.of (fun k => spec_RootsWith.mono _ k) (k := 4000) ?_
    unfold spec_RootsWith.f
    rw [l1In_f, inB_of h]
    simp only [Option.bind_some, if_true, h1, Int.toNat_natCast]
  · rw [if_neg h]
    unfold spec_RootsWith.f
    simp only [l1In_f, inB_not h, Option.bind_some, Bool.false_eq_true, if_false]
    exact Ev.now _
theorem dSame_l (l : List Int) (hl : l.length ≤ 1000000) (e : Nat) : ∀ i : Nat, i + e = l.length → Ev (fun k => laws_dSame.l0 k l l (l.length : Int) (i : Int)) true := by
  induction e with
  | zero =>
    intro i hi
    refine Ev.step (f := fun _ => some true) (fun k => ?_) (Ev.now _)
    simp only [laws_dSame.l0]
    rw [if_neg (by omega)]
  | succ e ih =>
    intro i hi
    refine Ev.step (f := fun k => laws_dSame.l0 k l l (l.length : Int) ((i + 1 : Nat) : Int)) (fun k => ?_) (ih (i + 1) (by omega))
    simp only [laws_dSame.l0]
    simp only [if_pos (show (i : Int) < (l.length : Int) by omega), if_pos (show (0 : Int) ≤ (i : Int) by omega), if_true]
    rw [wrap_id (by omega) (by omega)]
    rfl
theorem dSame_ev (l : List Int) (hl : l.length ≤ 1000000) : Ev (fun k => laws_dSame.f k l l) true := by
  have := dSame_l l hl l.length 0 (by omega)
  unfold laws_dSame.f
  simp only [if_true]
  exact this
theorem dLists_l (l : List (List Int)) (hl : l.length ≤ 1000000) (hr : ∀ x ∈ l, x.length ≤ 1000) (e : Nat) : ∀ i : Nat, i + e = l.length → Ev (fun k => laws_dLists.l0 k l l (l.length : Int) (i : Int)) true := by
  induction e with
  | zero =>
    intro i hi
    refine Ev.step (f := fun _ => some true) (fun k => ?_) (Ev.now _)
    simp only [laws_dLists.l0]
    rw [if_neg (by omega)]
  | succ e ih =>
    intro i hi
    have hx : (rd_L2 l (i : Int)).length ≤ 1000 := by
      have : rd_L2 l (i : Int) = l[i]'(by omega) := by simp [rd_L2, List.getD_eq_getElem?_getD, List.getElem?_eq_getElem (show i < l.length by omega)]
      rw [this]
      exact hr _ (List.getElem_mem _)
    refine Ev.step (f := fun k => (laws_dSame.f k (rd_L2 l (i : Int)) (rd_L2 l (i : Int))).bind fun t => (if t = true then (laws_dLists.l0 k l l (l.length : Int) ((i + 1 : Nat) : Int)) else (some false))) (fun k => ?_) ?_
    · simp only [laws_dLists.l0]
      rw [if_pos (by omega), if_pos (by omega), if_pos (by omega), if_pos (by omega), wrap_id (by omega) (by omega)]
      rfl
    · refine Ev.bind (dSame_ev _ (by omega)) ?_
      simp only [if_true]
      exact ih (i + 1) (by omega)
theorem dLists_ev (l : List (List Int)) (hl : l.length ≤ 1000000) (hr : ∀ x ∈ l, x.length ≤ 1000) : Ev (fun k => laws_dLists.f k l l) true := by
  have := dLists_l l hl hr l.length 0 (by omega)
  unfold laws_dLists.f
  simp only [if_true]
  exact this
/-- A row of the table as the law asks it. -/
def rowOk (n i : Nat) : Bool := tabOk ((tab n).getD i []) && decide (((tab n).getD i []).length = 4) && decide (((tab n).getD i []).getD 0 0 = -(n : Int)) && (decide (i = 0) || (laws_dLess.f 20 ((tab n).getD (i - 1) []) ((tab n).getD i []) == some true))
theorem rows_good (n i : Nat) (hn : n ≤ 30) (hi : i < (tab n).length) : rowOk n i = true := by
  have : ∀ m : Fin 31, (List.range (tab m.1).length).all (rowOk m.1) = true := by decide +kernel
  exact List.all_eq_true.1 (this ⟨n, by omega⟩) i (List.mem_range.2 hi)
theorem l0_ev (more : List Int) (n : Nat) (hn1 : 1 ≤ n) (hn : n ≤ 30) (r : Bool) (hc : Ev (fun k => laws_FnRootQuads.j3 k more n (tab n) (decide ((n : Int) ≤ 6))) r) (e : Nat) :
    ∀ i : Nat, i + e = (tab n).length → Ev (fun k => laws_FnRootQuads.l0 k more n (tab n) true (tab n) ((tab n).length : Int) (i : Int)) r := by
  have hlen := (tab_all n hn1 hn).2.2.1
  induction e with
  | zero =>
    intro i hi
    refine Ev.step (fun k => ?_) hc
    simp only [laws_FnRootQuads.l0]
    rw [if_neg (by omega)]
    rfl
  | succ e ih =>
    intro i hi
    have hro := rows_good n i hn (by omega)
    have hrd : rd_L2 (tab n) (i : Int) = (tab n).getD i [] := by simp [rd_L2]
    have hrd1 : 0 < i → rd_L2 (tab n) (wrap64 ((i : Int) - 1)) = (tab n).getD (i - 1) [] := fun h => by
      rw [wrap_id (by omega) (by omega), show ((i : Int) - 1) = ((i - 1 : Nat) : Int) by omega]
      simp [rd_L2]
    generalize hq : (tab n).getD i [] = q at *
    simp only [rowOk, hq, Bool.and_eq_true, Bool.or_eq_true, decide_eq_true_eq, beq_iff_eq, tabOk] at hro
    obtain ⟨⟨⟨⟨⟨⟨t1, t2⟩, t3⟩, t4⟩, h4⟩, hn0⟩, hless⟩ := hro
    have a1 := IsRootI_ev q
    have a2 := rootI_ev q
    have a3 := ScaleI_ev q
    rw [if_pos t1, t2] at a1
    rw [t3] at a2
    rw [if_pos t1, t4] at a3
    have hwn : wrap64 (-(n : Int)) = -(n : Int) := wrap_id (by omega) (by omega)
    have hq0 : rd q 0 = -(n : Int) := hn0
    have hnext := ih (i + 1) (by omega)
    have hw : wrap64 ((i : Int) + 1) = ((i + 1 : Nat) : Int) := by rw [wrap_id (by omega) (by omega)]; omega
    refine Ev.step (f := fun k => (impl_IsRoot.f k q).bind fun bt281 => ((impl_RootQuad.f k q).bind fun bt283 => ((impl_ScaleOf.f k q).bind fun bt287 => (if bt281.2 = true then (if bt281.1 = true then (if bt283.2 = true then ((laws_dSame.f k bt283.1 q).bind fun t289 => (if t289 = true then (if bt287.2 = true then (if bt287.1 = 1 then (if 0 < (q.length : Int) then (if (rd q 0) = (wrap64 (-(n : Int))) then (if (i : Int) > 0 then (if 0 ≤ (wrap64 ((i : Int) - 1)) then (if (wrap64 ((i : Int) - 1)) < ((tab n).length : Int) then ((laws_dLess.f k (rd_L2 (tab n) (wrap64 ((i : Int) - 1))) q).bind fun t292 => (if t292 = true then (laws_FnRootQuads.l0 k more n (tab n) true (tab n) ((tab n).length : Int) (wrap64 ((i : Int) + 1))) else (some false))) else (none)) else (none)) else (laws_FnRootQuads.l0 k more n (tab n) true (tab n) ((tab n).length : Int) (wrap64 ((i : Int) + 1)))) else (some false)) else (none)) else (some false)) else (some false)) else (some false))) else (some false)) else (some false)) else (some false))))) (fun k => ?_) ?_
    · simp only [laws_FnRootQuads.l0]
      rw [if_pos (by omega), if_pos (by omega), if_pos (by omega), hrd]
    · refine Ev.bind a1 (Ev.bind a2 (Ev.bind a3 ?_))
      simp only [if_true]
      refine Ev.bind (dSame_ev q (by omega)) ?_
      simp only [if_true, if_pos (show (0 : Int) < (q.length : Int) by omega), hq0, hwn, hw]
      by_cases hi0 : i = 0
      · simp only [if_neg (show ¬ (i : Int) > 0 by omega)]
        exact hnext
      · have hl : laws_dLess.f 20 ((tab n).getD (i - 1) []) q = some true := by
          rcases hless with h | h
          · exact absurd h hi0
          · exact h
        have hlE : Ev (fun k => laws_dLess.f k ((tab n).getD (i - 1) []) q) true := Ev.of (fun k => laws_dLess.mono _ _ k) hl
        have hwi : wrap64 ((i : Int) - 1) = (i : Int) - 1 := wrap_id (by omega) (by omega)
        have hr1 := hrd1 (by omega)
        rw [hwi] at hr1
        simp only [hwi, if_pos (show (i : Int) > 0 by omega), if_pos (show (0 : Int) ≤ (i : Int) - 1 by omega), if_pos (show (i : Int) - 1 < ((tab n).length : Int) by omega), hr1]
        refine Ev.bind hlE ?_
        simp only [if_true]
        exact hnext
theorem l3_ev (more : List Int) (n : Int) (L : List (List Int)) (b c : Int) (r : Bool) (hn : 0 ≤ n ∧ n ≤ 100) (hc60 : 0 ≤ c ∧ c ≤ 100) (e : Nat) : ∀ (d acc : Int), d + e = 61 → 0 ≤ d → 0 ≤ acc → acc + e ≤ 1000000000 →
    Ev (fun k => laws_FnRootQuads.l2 k more n L (hitsD n b c e d acc) b (c + 1)) r → Ev (fun k => laws_FnRootQuads.l3 k more n L acc b c d) r := by
  have hwn : wrap64 (-n) = -n := wrap_id (by omega) (by omega)
  have hwc : wrap64 (c + 1) = c + 1 := wrap_id (by omega) (by omega)
  induction e with
  | zero =>
    intro d acc hd h0 ha hb h
    refine Ev.step (fun k => ?_) h
    simp only [laws_FnRootQuads.l3]
    rw [if_neg (by omega), hwc]
    rfl
  | succ e ih =>
    intro d acc hd h0 ha hb h
    have hwd : wrap64 (d + 1) = d + 1 := wrap_id (by omega) (by omega)
    have hwa : wrap64 (acc + 1) = acc + 1 := wrap_id (by omega) (by omega)
    have a1 := IsRootI_ev [-n, b, c, d]
    have a3 := ScaleI_ev [-n, b, c, d]
    simp only [hitsD] at h
    refine Ev.step (f := fun k => (impl_IsRoot.f k [-n, b, c, d]).bind fun bt296 => ((impl_ScaleOf.f k [-n, b, c, d]).bind fun bt298 => (if bt296.2 = true then (if bt298.2 = true then (if bt296.1 = true then (if bt298.1 = 1 then (laws_FnRootQuads.l3 k more n L (acc + 1) b c (d + 1)) else (laws_FnRootQuads.l3 k more n L acc b c (d + 1))) else (laws_FnRootQuads.l3 k more n L acc b c (d + 1))) else (laws_FnRootQuads.l3 k more n L acc b c (d + 1))) else (laws_FnRootQuads.l3 k more n L acc b c (d + 1))))) (fun k => ?_) ?_
    · simp only [laws_FnRootQuads.l3, hwn, hwd, hwa, Option.bind_some]
      rw [if_pos (by omega)]
    · refine Ev.bind a1 (Ev.bind a3 ?_)
      by_cases t1 : quadB [-n, b, c, d] = true
      · simp only [if_pos t1, if_true]
        by_cases t2 : rootB [-n, b, c, d] 0 4 = true
        · simp only [if_pos t2]
          by_cases t3 : gcd4 [-n, b, c, d] = 1
          · simp only [if_pos t3]
            refine ih (d + 1) (acc + 1) (by omega) (by omega) (by omega) (by omega) ?_
            rw [if_pos (by simp only [hitB, t1, t2, t3]; rfl)] at h
            exact h
          · simp only [if_neg t3]
            refine ih (d + 1) acc (by omega) (by omega) (by omega) (by omega) ?_
            rw [if_neg (by simp only [hitB, t1, t2, Bool.true_and, decide_eq_true_eq]; exact t3)] at h
            exact h
        · simp only [if_neg t2]
          refine ih (d + 1) acc (by omega) (by omega) (by omega) (by omega) ?_
          rw [if_neg (by simp only [hitB, Bool.and_eq_true]; exact fun h => t2 h.1.2)] at h
          exact h
      · simp only [if_neg t1, Bool.false_eq_true, if_false]
        refine ih (d + 1) acc (by omega) (by omega) (by omega) (by omega) ?_
        rw [if_neg (by simp only [hitB, Bool.and_eq_true]; exact fun h => t1 h.1.1)] at h
        exact h
theorem hitsD_le (n b c : Int) (e : Nat) : ∀ (d acc : Int), acc ≤ hitsD n b c e d acc ∧ hitsD n b c e d acc ≤ acc + e := by
  induction e with
  | zero => intro d acc; simp [hitsD]
  | succ e ih =>
    intro d acc
    simp only [hitsD]
    split
    · have := ih (d + 1) (acc + 1); omega
    · have := ih (d + 1) acc; omega
theorem hitsC_le (n b : Int) (e : Nat) : ∀ (c acc : Int), e ≤ 100 → acc ≤ hitsC n b e c acc ∧ hitsC n b e c acc ≤ acc + 100 * e := by
  induction e with
  | zero => intro c acc _; simp [hitsC]
  | succ e ih =>
    intro c acc he
    simp only [hitsC]
    have h1 := hitsD_le n b c (e + 1) c acc
    have h2 := ih (c + 1) (hitsD n b c (e + 1) c acc) (by omega)
    omega
theorem l2_ev (more : List Int) (n : Int) (L : List (List Int)) (b : Int) (r : Bool) (hn : 0 ≤ n ∧ n ≤ 100) (hb60 : 0 ≤ b ∧ b ≤ 100) (e : Nat) : ∀ (c acc : Int), c + e = 61 → 0 ≤ c → 0 ≤ acc → acc + 100 * e ≤ 100000000 →
    Ev (fun k => laws_FnRootQuads.l1 k more n L (hitsC n b e c acc) (b + 1)) r → Ev (fun k => laws_FnRootQuads.l2 k more n L acc b c) r := by
  have hwb : wrap64 (b + 1) = b + 1 := wrap_id (by omega) (by omega)
  induction e with
  | zero =>
    intro c acc hc h0 ha hb h
    refine Ev.step (fun k => ?_) h
    simp only [laws_FnRootQuads.l2]
    rw [if_neg (by omega), hwb]
    rfl
  | succ e ih =>
    intro c acc hc h0 ha hb h
    have hd := hitsD_le n b c (e + 1) c acc
    simp only [hitsC] at h
    refine Ev.step (f := fun k => laws_FnRootQuads.l3 k more n L acc b c c) (fun k => ?_) (l3_ev more n L b c r hn ⟨h0, by omega⟩ (e + 1) c acc (by omega) h0 ha (by omega) (ih (c + 1) _ (by omega) (by omega) (by omega) (by omega) h))
    simp only [laws_FnRootQuads.l2]
    rw [if_pos (by omega)]
theorem l1_ev (more : List Int) (n : Int) (L : List (List Int)) (r : Bool) (hn : 0 ≤ n ∧ n ≤ 100) (e : Nat) : ∀ (b acc : Int), b + e = 61 → 0 ≤ b → 0 ≤ acc → acc + 10000 * e ≤ 10000000 →
    Ev (fun k => laws_FnRootQuads.l4 k more (hitsB n e b acc) 0 L (L.length : Int) 0) r → Ev (fun k => laws_FnRootQuads.l1 k more n L acc b) r := by
  induction e with
  | zero =>
    intro b acc hc h0 ha hb h
    refine Ev.step (fun k => ?_) h
    simp only [laws_FnRootQuads.l1]
    rw [if_neg (by omega)]
    rfl
  | succ e ih =>
    intro b acc hc h0 ha hb h
    have hd := hitsC_le n b (e + 1) b acc (by omega)
    simp only [hitsB] at h
    refine Ev.step (f := fun k => laws_FnRootQuads.l2 k more n L acc b b) (fun k => ?_) (l2_ev more n L b r hn ⟨h0, by omega⟩ (e + 1) b acc (by omega) h0 ha (by omega) (ih (b + 1) _ (by omega) (by omega) (by omega) (by omega) h))
    simp only [laws_FnRootQuads.l1]
    rw [if_pos (by omega)]
def cntT : List (List Int) → Int
  | [] => 0
  | q :: t => (if q.getD 3 0 ≤ 60 then 1 else 0) + cntT t
theorem l4_ev (more : List Int) (X : Int) (L : List (List Int)) (h4 : ∀ q ∈ L, q.length = 4) (hL : L.length ≤ 1000) (r : Bool) (h : Ev (fun k => laws_FnRootQuads.j8 k more) r) (e : Nat) : ∀ (i : Nat) (acc : Int), i + e = L.length → 0 ≤ acc → acc ≤ i → X = acc + cntT (L.drop i) →
    Ev (fun k => laws_FnRootQuads.l4 k more X acc L (L.length : Int) (i : Int)) r := by
  induction e with
  | zero =>
    intro i acc hi h0 ha hX
    have hd : L.drop i = [] := List.drop_eq_nil_of_le (by omega)
    rw [hd] at hX
    simp only [cntT, Int.add_zero] at hX
    refine Ev.step (fun k => ?_) h
    simp only [laws_FnRootQuads.l4]
    rw [if_neg (by omega), if_pos hX]
  | succ e ih =>
    intro i acc hi h0 ha hX
    have hil : i < L.length := by omega
    have hd : L.drop i = L[i] :: L.drop (i + 1) := List.drop_eq_getElem_cons hil
    have hq4 := h4 _ (List.getElem_mem hil)
    have hrd : rd_L2 L (i : Int) = L[i] := by simp [rd_L2, List.getD_eq_getElem?_getD, List.getElem?_eq_getElem hil]
    have hw : wrap64 ((i : Int) + 1) = ((i + 1 : Nat) : Int) := by rw [wrap_id (by omega) (by omega)]; omega
    have hwa : wrap64 (acc + 1) = acc + 1 := wrap_id (by omega) (by omega)
    rw [hd] at hX
    simp only [cntT] at hX
    have hr3 : rd L[i] 3 = L[i].getD 3 0 := rfl
    by_cases hq : L[i].getD 3 0 ≤ 60
    · rw [if_pos hq] at hX
      refine Ev.step (fun k => ?_) (ih (i + 1) (acc + 1) (by omega) (by omega) (by omega) (by omega))
      simp only [laws_FnRootQuads.l4]
      rw [if_pos (by omega), if_pos (by omega), if_pos (by omega), hrd, if_pos (by omega), hr3, if_pos hq, hw, hwa]
    · rw [if_neg hq] at hX
      refine Ev.step (fun k => ?_) (ih (i + 1) acc (by omega) (by omega) (by omega) (by omega))
      simp only [laws_FnRootQuads.l4]
      rw [if_pos (by omega), if_pos (by omega), if_pos (by omega), hrd, if_pos (by omega), hr3, if_neg hq, hw]
def catT : Nat → Nat → List (List Int)
  | _, 0 => []
  | i, d + 1 => tab i ++ catT (i + 1) d
theorem catT_len (d : Nat) : ∀ i, 1 ≤ i → i + d ≤ 31 → (catT i d).length ≤ 10 * d ∧ ∀ q ∈ catT i d, q.length ≤ 1000 := by
  induction d with
  | zero => intro i _ _; simp [catT]
  | succ d ih =>
    intro i h1 h2
    obtain ⟨a, b⟩ := ih (i + 1) (by omega) (by omega)
    have hl := (tab_all i h1 (by omega)).2.2.1
    refine ⟨by simp only [catT, List.length_append]; omega, fun q hq => ?_⟩
    simp only [catT, List.mem_append] at hq
    rcases hq with hq | hq
    · obtain ⟨j, hj, rfl⟩ := List.getElem_of_mem hq
      have hro := rows_good i j (by omega) hj
      simp only [rowOk, Bool.and_eq_true, decide_eq_true_eq, List.getD_eq_getElem?_getD, List.getElem?_eq_getElem hj, Option.getD_some] at hro
      have := hro.1.1.2
      omega
    · exact b q hq
theorem allI_l (N : Nat) (hN : N ≤ 30) (d : Nat) : ∀ (i : Nat) (acc : List (List Int)), 1 ≤ i → i + d = N + 1 → acc.length ≤ 10 * (i - 1) → Ev (fun k => impl_AllRootsUpTo.l0 k N acc (i : Int)) (acc ++ catT i d, true) := by
  induction d with
  | zero =>
    intro i acc h1 hi ha
    refine Ev.step (f := fun _ => some (acc, true)) (fun k => ?_) (by simp only [catT, List.append_nil]; exact Ev.now _)
    simp only [impl_AllRootsUpTo.l0]
    rw [if_neg (by omega)]
  | succ d ih =>
    intro i acc h1 hi ha
    obtain ⟨t1, t2, t3, t4⟩ := tab_all i h1 (by omega)
    have hw : wrap64 ((i : Int) + 1) = ((i + 1 : Nat) : Int) := by rw [wrap_id (by omega) (by omega)]; omega
    refine Ev.step (f := fun k => (impl_rootsWith.f k (i : Int)).bind fun t => (if acc.length + t.length < 5864062014805 then (impl_AllRootsUpTo.l0 k N (acc ++ t) (wrap64 ((i : Int) + 1))) else (none))) (fun k => ?_) ?_
    · simp only [impl_AllRootsUpTo.l0]
      rw [if_pos (by omega)]
    · refine Ev.bind (Ev.of (fun k => impl_rootsWith.mono _ k) t2) ?_
      simp only [if_pos (show acc.length + (tab i).length < 5864062014805 by omega), hw]
      have := ih (i + 1) (acc ++ tab i) (by omega) (by omega) (by rw [List.length_append]; omega)
      simpa [catT] using this
theorem allS_l (N : Nat) (hN : N ≤ 30) (d : Nat) : ∀ (i : Nat) (acc : List (List Int)), 1 ≤ i → i + d = N + 1 → acc.length ≤ 10 * (i - 1) → Ev (fun k => spec_AllRootsUpTo.l0 k N acc (i : Int)) (acc ++ catT i d, true) := by
  induction d with
  | zero =>
    intro i acc h1 hi ha
    refine Ev.step (f := fun _ => some (acc, true)) (fun k => ?_) (by simp only [catT, List.append_nil]; exact Ev.now _)
    simp only [spec_AllRootsUpTo.l0]
    rw [if_neg (by omega)]
  | succ d ih =>
    intro i acc h1 hi ha
    obtain ⟨t1, t2, t3, t4⟩ := tab_all i h1 (by omega)
    have hw : wrap64 ((i : Int) + 1) = ((i + 1 : Nat) : Int) := by rw [wrap_id (by omega) (by omega)]; omega
    refine Ev.step (f := fun k => (spec_apRoots.f k (i : Int)).bind fun t => (if acc.length + t.length < 5864062014805 then (spec_AllRootsUpTo.l0 k N (acc ++ t) (wrap64 ((i : Int) + 1))) else (none))) (fun k => ?_) ?_
    · simp only [spec_AllRootsUpTo.l0]
      rw [if_pos (by omega)]
    · refine Ev.bind (Ev.of (fun k => spec_apRoots.mono _ k) t1) ?_
      simp only [if_pos (show acc.length + (tab i).length < 5864062014805 by omega), hw]
      have := ih (i + 1) (acc ++ tab i) (by omega) (by omega) (by rw [List.length_append]; omega)
      simpa [catT] using this
theorem l5_ev (N : Nat) (hN : N ≤ 30) (X : List (List Int)) (d : Nat) : ∀ (i : Nat) (acc : Int), 1 ≤ i → i + d = N + 1 → 0 ≤ acc → acc ≤ 10 * i → Ev (fun k => laws_FnRootQuads.l5 k N X acc (i : Int)) (acc + ((catT i d).length : Int) == (X.length : Int)) := by
  induction d with
  | zero =>
    intro i acc h1 hi ha hb
    refine Ev.step (f := fun _ => some (acc == (X.length : Int))) (fun k => ?_) (by simp only [catT, List.length_nil, Int.natCast_zero, Int.add_zero]; exact Ev.now _)
    simp only [laws_FnRootQuads.l5]
    rw [if_neg (by omega)]
  | succ d ih =>
    intro i acc h1 hi ha hb
    have hl := (tab_all i h1 (by omega)).2.2.1
    have hr := rootsI_ev (i : Int)
    rw [if_pos (by omega), Int.toNat_natCast] at hr
    have hw : wrap64 ((i : Int) + 1) = ((i + 1 : Nat) : Int) := by rw [wrap_id (by omega) (by omega)]; omega
    have hwa : wrap64 (acc + ((tab i).length : Int)) = acc + ((tab i).length : Int) := wrap_id (by omega) (by omega)
    refine Ev.step (f := fun k => (impl_RootsWith.f k (i : Int)).bind fun bt312 => (if bt312.2 = true then (laws_FnRootQuads.l5 k N X (wrap64 (acc + (bt312.1.length : Int))) (wrap64 ((i : Int) + 1))) else (some false))) (fun k => ?_) ?_
    · simp only [laws_FnRootQuads.l5]
      rw [if_pos (by omega)]
    · refine Ev.bind hr ?_
      simp only [if_true, hwa, hw]
      have := ih (i + 1) (acc + ((tab i).length : Int)) (by omega) (by omega) (by omega) (by omega)
      simp only [catT, List.length_append]
      rw [show acc + (((tab i).length + (catT (i + 1) d).length : Nat) : Int) = acc + ((tab i).length : Int) + ((catT (i + 1) d).length : Int) by omega]
      exact this
theorem j8_ev (more : List Int) (hs : Bytes more) : Ev (fun k => laws_FnRootQuads.j8 k more) true := by
  obtain ⟨v, a', z', hv, hm, _⟩ := among_ok hs (a := 0) 0 (by omega) (by omega) (l := [1, 2, 3, 5, 8, 11, 31, 0]) (by simp) (by simp)
  have hd : spec_DrawAllRootsUpTo.f more = some v := by
    unfold spec_DrawAllRootsUpTo.f
    rw [hv]
    rfl
  have h0 : 0 ≤ v ∧ v ≤ 31 := by
    simp only [List.mem_cons, List.not_mem_nil, or_false] at hm
    omega
  refine Ev.step (f := fun k => (impl_AllRootsUpTo.f k v).bind fun bt303 => ((spec_AllRootsUpTo.f k v).bind fun bt307 => (if (bt303.2 != bt307.2) = true then (laws_FnRootQuads.j9 k v bt303.1 bt303.2 true) else ((laws_dLists.f k bt303.1 bt307.1).bind fun t311 => (laws_FnRootQuads.j9 k v bt303.1 bt303.2 (!t311)))))) (fun k => ?_) ?_
  · simp only [laws_FnRootQuads.j8, hd, Option.bind_some]
  · by_cases h : 1 ≤ v ∧ v ≤ 30
    · obtain ⟨N, rfl⟩ : ∃ N : Nat, v = N := ⟨v.toNat, by omega⟩
      have e1 : Ev (fun k => impl_AllRootsUpTo.f k (N : Int)) (catT 1 N, true) := by
        unfold impl_AllRootsUpTo.f
        simp only [within_f, inB_of h, Option.bind_some, if_true]
        simpa using allI_l N (by omega) N 1 [] (Nat.le_refl _) (by omega) (by simp)
      have e2 : Ev (fun k => spec_AllRootsUpTo.f k (N : Int)) (catT 1 N, true) := by
        unfold spec_AllRootsUpTo.f
        simp only [l1In_f, inB_of h, Option.bind_some, if_true]
        simpa using allS_l N (by omega) N 1 [] (Nat.le_refl _) (by omega) (by simp)
      obtain ⟨c1, c2⟩ := catT_len N 1 (Nat.le_refl _) (by omega)
      refine Ev.bind e1 (Ev.bind e2 ?_)
      simp only [bne_self_eq_false, Bool.false_eq_true, if_false]
      refine Ev.bind (dLists_ev _ (by omega) c2) ?_
      refine Ev.step (f := fun k => laws_FnRootQuads.l5 k N (catT 1 N) 0 1) (fun k => ?_) ?_
      · simp only [laws_FnRootQuads.j9, Bool.not_true, Bool.false_eq_true, if_false, if_true]
      · have := l5_ev N (by omega) (catT 1 N) N 1 0 (Nat.le_refl _) (by omega) (by omega) (by omega)
        simpa using this
    · have e1 : Ev (fun k => impl_AllRootsUpTo.f k v) ([], false) := by
        unfold impl_AllRootsUpTo.f
        simp only [within_f, inB_not h, Option.bind_some, Bool.false_eq_true, if_false]
        exact Ev.now _
      have e2 : Ev (fun k => spec_AllRootsUpTo.f k v) ([], false) := by
        unfold spec_AllRootsUpTo.f
        simp only [l1In_f, inB_not h, Option.bind_some, Bool.false_eq_true, if_false]
        exact Ev.now _
      refine Ev.bind e1 (Ev.bind e2 ?_)
      simp only [bne_self_eq_false, Bool.false_eq_true, if_false]
      refine Ev.bind (dLists_ev [] (by simp) (by simp)) ?_
      refine Ev.step (f := fun _ => some true) (fun k => ?_) (Ev.now _)
      simp only [laws_FnRootQuads.j9, Bool.not_true, Bool.false_eq_true, if_false]
theorem hits1 : hitsB 1 60 1 0 = cntT (tab 1) := by decide +kernel
theorem hits2 : hitsB 2 60 1 0 = cntT (tab 2) := by decide +kernel
theorem hits3 : hitsB 3 60 1 0 = cntT (tab 3) := by decide +kernel
theorem hits4 : hitsB 4 60 1 0 = cntT (tab 4) := by decide +kernel
theorem hits5 : hitsB 5 60 1 0 = cntT (tab 5) := by decide +kernel
theorem hits6 : hitsB 6 60 1 0 = cntT (tab 6) := by decide +kernel
theorem hits_all (n : Nat) (h1 : 1 ≤ n) (h6 : n ≤ 6) : hitsB (n : Int) 60 1 0 = cntT (tab n) := by
  match n, h1, h6 with
  | 1, _, _ => exact hits1
  | 2, _, _ => exact hits2
  | 3, _, _ => exact hits3
  | 4, _, _ => exact hits4
  | 5, _, _ => exact hits5
  | 6, _, _ => exact hits6
  | n + 7, _, h => omega
theorem tab_four (n : Nat) (hn : n ≤ 30) : ∀ q ∈ tab n, q.length = 4 := by
  intro q hq
  obtain ⟨j, hj, rfl⟩ := List.getElem_of_mem hq
  have hro := rows_good n j hn hj
  simp only [rowOk, Bool.and_eq_true, decide_eq_true_eq, List.getD_eq_getElem?_getD, List.getElem?_eq_getElem hj, Option.getD_some] at hro
  exact hro.1.1.2
theorem tab_ne (n : Nat) (h1 : 1 ≤ n) (hn : n ≤ 30) : (tab n).length ≠ 0 := by
  have : ∀ i : Fin 30, (tab (i.1 + 1)).length ≠ 0 := by decide +kernel
  have h := this ⟨n - 1, by omega⟩
  simp only [show n - 1 + 1 = n by omega] at h
  exact h
theorem u8_bytes {l : List Int} (h : ∀ x ∈ l, (Lit.int .u8 x).wf = true) : Bytes l := by
  intro x hx
  have := h x hx
  simp only [Lit.wf, Bool.and_eq_true, decide_eq_true_eq] at this
  exact ⟨this.1, this.2⟩
theorem FnRootQuads : laws_FnRootQuads.Pure := by
  intro l0 l1 hm0 hc0 hw0 hm1 hc1 hw1
  suffices h : Ev (fun k => laws_FnRootQuads.f k l0 l1) true by
    obtain ⟨K, h⟩ := h
    exact ⟨K, h K (Nat.le_refl _)⟩
  have hB0 := u8_bytes hw0
  have hB1 := u8_bytes hw1
  obtain ⟨b, hb⟩ : ∃ b, laws_big.f l0 l1 = some b := by
    unfold laws_big.f
    split <;> exact ⟨_, rfl⟩
  unfold laws_FnRootQuads.f
  simp only [hb, Option.bind_some]
  cases b with
  | true => simp only [if_true]; exact Ev.now _
  | false =>
    simp only [Bool.false_eq_true, if_false]
    obtain ⟨v, a', z', hv, hm, _⟩ := among_ok hB0 (a := 0) 0 (by omega) (by omega) (l := [1, 2, 3, 4, 5, 6, 10, 15, 30, 31, 0, (-1)]) (by simp) (by simp)
    have hd : spec_DrawRootsWith.f l0 = some v := by
      unfold spec_DrawRootsWith.f
      rw [hv]
      rfl
    have hv0 : -1 ≤ v ∧ v ≤ 31 := by
      simp only [List.mem_cons, List.not_mem_nil, or_false] at hm
      omega
    simp only [hd, Option.bind_some]
    have hj8 := j8_ev l1 hB1
    by_cases h : 1 ≤ v ∧ v ≤ 30
    · obtain ⟨n, rfl⟩ : ∃ n : Nat, v = n := ⟨v.toNat, by omega⟩
      have e1 := rootsI_ev (n : Int)
      have e2 := rootsS_ev (n : Int)
      rw [if_pos h, Int.toNat_natCast] at e1 e2
      have hl := (tab_all n (by omega) (by omega)).2.2.1
      have h4 := tab_four n (by omega)
      refine Ev.bind e1 (Ev.bind e2 ?_)
      simp only [bne_self_eq_false, Bool.false_eq_true, if_false]
      refine Ev.bind (dLists_ev _ (by omega) (fun q hq => by have := h4 q hq; omega)) ?_
      refine Ev.step (f := fun k => laws_FnRootQuads.j1 k l1 n (tab n) true (((tab n).length : Int) == 0)) (fun k => ?_) ?_
      · simp only [laws_FnRootQuads.j0, Bool.not_true, Bool.false_eq_true, if_false, if_true]
      · have hz : (((tab n).length : Int) == 0) = false := by
          have := tab_ne n (by omega) (by omega)
          rw [beq_eq_false_iff_ne]
          omega
        rw [hz]
        refine Ev.step (f := fun k => laws_FnRootQuads.l0 k l1 n (tab n) true (tab n) ((tab n).length : Int) ((0 : Nat) : Int)) (fun k => ?_) ?_
        · simp only [laws_FnRootQuads.j1, Bool.false_eq_true, if_false]
          rfl
        · refine l0_ev l1 n (by omega) (by omega) true ?_ (tab n).length 0 (by omega)
          by_cases h6 : n ≤ 6
          · rw [decide_eq_true (show (n : Int) ≤ 6 by omega)]
            refine Ev.step (f := fun k => laws_FnRootQuads.l1 k l1 n (tab n) 0 1) (fun k => ?_) ?_
            · simp only [laws_FnRootQuads.j3, if_true]
            · refine l1_ev l1 n (tab n) true ⟨by omega, by omega⟩ 60 1 0 (by omega) (by omega) (by omega) (by omega) ?_
              have := l4_ev l1 (hitsB (n : Int) 60 1 0) (tab n) h4 (by omega) true hj8 (tab n).length 0 0 (by omega) (by omega) (by omega) (by rw [hits_all n (by omega) h6]; simp)
              simpa using this
          · rw [decide_eq_false (show ¬ (n : Int) ≤ 6 by omega)]
            refine Ev.step (fun k => ?_) hj8
            simp only [laws_FnRootQuads.j3, Bool.false_eq_true, if_false]
    · have e1 := rootsI_ev v
      have e2 := rootsS_ev v
      rw [if_neg h] at e1 e2
      refine Ev.bind e1 (Ev.bind e2 ?_)
      simp only [bne_self_eq_false, Bool.false_eq_true, if_false]
      refine Ev.bind (dLists_ev [] (by simp) (by simp)) ?_
      refine Ev.step (f := fun k => laws_FnRootQuads.j1 k l1 v [] false false) (fun k => ?_) ?_
      · simp only [laws_FnRootQuads.j0, Bool.not_true, Bool.false_eq_true, if_false]
      refine Ev.step (f := fun k => laws_FnRootQuads.l0 k l1 v [] false [] 0 0) (fun k => ?_) ?_
      · simp only [laws_FnRootQuads.j1, Bool.false_eq_true, if_false]
        rfl
      refine Ev.step (f := fun k => laws_FnRootQuads.j3 k l1 v [] false) (fun k => ?_) ?_
      · simp only [laws_FnRootQuads.l0]
        rw [if_neg (by decide)]
        rfl
      refine Ev.step (fun k => ?_) hj8
      simp only [laws_FnRootQuads.j3, Bool.false_eq_true, if_false]

end Go.Proofs.Ytgjgoeodhioeiaa.Pure
