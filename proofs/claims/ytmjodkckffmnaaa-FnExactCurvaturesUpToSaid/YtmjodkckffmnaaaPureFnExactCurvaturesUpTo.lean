/- For every input the statement FnExactCurvaturesUpTo holds of what the program and the reference compute, told as plain Lean functions; there is no further condition. -/
import Derived.Test.YtmjodkckffmnaaaP27
import Derived.Test.YtmjodkckffmnaaaP33
import Derived.Test.YtmjodkckffmnaaaP34
import Derived.Test.YtmjodkckffmnaaaP35
import Derived.Test.YtmjodkckffmnaaaLeFnExactCurvaturesUpTo
namespace Go.Proofs.Ytmjodkckffmnaaa.Pure
open Go.RowKit Go.Proofs.Ytmjodkckffmnaaa.P Go.Proofs.YtmjodkckffmnaaaW.PrintWords Go.Proofs.YtmjodkckffmnaaaW.PrintLast Go.Proofs.YtmjodkckffmnaaaW.PrintMore

def marks : List Bool → List Int → List Bool
  | s, [] => s
  | s, v :: t => marks (s.set v.toNat true) t
theorem marks_len (l : List Int) : ∀ s, (marks s l).length = s.length := by
  induction l with
  | nil => intro s; rfl
  | cons v t ih => intro s; simp only [marks, ih, List.length_set]
theorem marks_get (l : List Int) : ∀ (s : List Bool) (i : Nat), i < s.length → ((marks s l).getD i false = true ↔ s.getD i false = true ∨ ∃ v ∈ l, v.toNat = i) := by
  induction l with
  | nil => intro s i hi; simp [marks]
  | cons v t ih =>
    intro s i hi
    simp only [marks]
    rw [ih _ i (by simpa using hi)]
    have key : (s.set v.toNat true).getD i false = true ↔ (s.getD i false = true ∨ v.toNat = i) := by
      by_cases h : v.toNat = i
      · subst h
        simp [List.getD_eq_getElem?_getD, List.getElem?_set_self hi]
      · simp [List.getD_eq_getElem?_getD, List.getElem?_set_ne h, h]
    rw [key]
    constructor
    · rintro ((h | h) | ⟨u, hu, h⟩)
      · exact .inl h
      · exact .inr ⟨v, by simp, h⟩
      · exact .inr ⟨u, by simp [hu], h⟩
    · rintro (h | ⟨u, hu, h⟩)
      · exact .inl (.inl h)
      · rcases List.mem_cons.1 hu with rfl | hu
        · exact .inl (.inr h)
        · exact .inr ⟨u, hu, h⟩
def told (s : List Bool) : Nat → Nat → List Int
  | _, 0 => []
  | i, e + 1 => if s.getD i false = true then (i : Int) :: told s (i + 1) e else told s (i + 1) e
theorem told_mem (s : List Bool) (e : Nat) : ∀ (i : Nat) (y : Int), y ∈ told s i e ↔ ∃ j : Nat, i ≤ j ∧ j < i + e ∧ s.getD j false = true ∧ y = (j : Int) := by
  induction e with
  | zero => intro i y; simp [told]; omega
  | succ e ih =>
    intro i y
    have key : (∃ j : Nat, i ≤ j ∧ j < i + (e + 1) ∧ s.getD j false = true ∧ y = (j : Int)) ↔ ((s.getD i false = true ∧ y = (i : Int)) ∨ ∃ j : Nat, i + 1 ≤ j ∧ j < i + 1 + e ∧ s.getD j false = true ∧ y = (j : Int)) := by
      constructor
      · rintro ⟨j, h1, h2, h3, h4⟩
        by_cases hj : j = i
        · subst hj; exact .inl ⟨h3, h4⟩
        · exact .inr ⟨j, by omega, by omega, h3, h4⟩
      · rintro (⟨h1, h2⟩ | ⟨j, h1, h2, h3, h4⟩)
        · exact ⟨i, by omega, by omega, h1, h2⟩
        · exact ⟨j, by omega, by omega, h3, h4⟩
    rw [key, ← ih (i + 1) y]
    simp only [told]
    by_cases h : s.getD i false = true
    · rw [if_pos h, List.mem_cons]
      exact ⟨fun a => a.elim (fun a => .inl ⟨h, a⟩) .inr, fun a => a.elim (fun a => .inl a.2) .inr⟩
    · rw [if_neg h]
      exact ⟨.inr, fun a => a.elim (fun a => absurd a.1 h) id⟩
theorem told_pw (s : List Bool) (e : Nat) : ∀ i : Nat, (told s i e).Pairwise (fun a b => a < b) := by
  induction e with
  | zero => intro i; exact List.Pairwise.nil
  | succ e ih =>
    intro i
    simp only [told]
    split
    · refine List.pairwise_cons.2 ⟨fun y hy => ?_, ih (i + 1)⟩
      obtain ⟨j, h1, _, _, rfl⟩ := (told_mem s e (i + 1) y).1 hy
      omega
    · exact ih (i + 1)
theorem told_len (s : List Bool) (e : Nat) : ∀ i : Nat, (told s i e).length ≤ e := by
  induction e with
  | zero => intro i; simp [told]
  | succ e ih =>
    intro i
    have := ih (i + 1)
    simp only [told]
    split
    · simp only [List.length_cons]; omega
    · omega
theorem cuS_1 (s : List Bool) (e : Nat) : ∀ (i : Nat) (out : List Int), i + e = s.length → s.length ≤ 1000000 → out.length + e ≤ 1000000000 →
    Ev (fun k => spec_CurvaturesUpTo.l1 k out s (s.length : Int) (i : Int)) (out ++ told s i e, true) := by
  induction e with
  | zero =>
    intro i out hi hs ho
    refine Ev.step (f := fun _ => some (out, true)) (fun k => ?_) (by simp only [told, List.append_nil]; exact Ev.now _)
    simp only [spec_CurvaturesUpTo.l1]
    rw [if_neg (by omega)]
  | succ e ih =>
    intro i out hi hs ho
    have hw : wrap64 ((i : Int) + 1) = ((i + 1 : Nat) : Int) := by rw [wrap_id (by omega) (by omega)]; omega
    have hrd : rdOf false s (i : Int) = s.getD i false := by simp [rdOf]
    by_cases h : s.getD i false = true
    · refine Ev.step (f := fun k => spec_CurvaturesUpTo.l1 k (out ++ [(i : Int)]) s (s.length : Int) ((i + 1 : Nat) : Int)) (fun k => ?_) ?_
      · simp only [spec_CurvaturesUpTo.l1]
        rw [if_pos (by omega), if_pos (by omega), if_pos (by omega), hrd, if_pos h, if_pos (by omega), hw]
      · have := ih (i + 1) (out ++ [(i : Int)]) (by omega) hs (by simp; omega)
        simp only [told, if_pos h]
        simpa using this
    · refine Ev.step (f := fun k => spec_CurvaturesUpTo.l1 k out s (s.length : Int) ((i + 1 : Nat) : Int)) (fun k => ?_) ?_
      · simp only [spec_CurvaturesUpTo.l1]
        rw [if_pos (by omega), if_pos (by omega), if_pos (by omega), hrd, if_neg h, hw]
      · have := ih (i + 1) out (by omega) hs (by omega)
        simp only [told, if_neg h]
        exact this
theorem cuS_0 (N : Nat) (hN : N ≤ 1000000) (x : Int) (suf : List Int) : ∀ (pre : List Int) (s : List Bool), s.length = N → pre.length + suf.length ≤ 1000000000000 → (∀ y ∈ suf, 0 ≤ y ∧ y < (N : Int)) →
    Ev (fun k => spec_CurvaturesUpTo.l0 k s [x] (pre ++ suf) ((pre ++ suf).length : Int) (pre.length : Int)) (x :: told (marks s suf) 0 N, true) := by
  induction suf with
  | nil =>
    intro pre s hs hl _
    refine Ev.step (f := fun k => spec_CurvaturesUpTo.l1 k [x] s (s.length : Int) ((0 : Nat) : Int)) (fun k => ?_) ?_
    · simp only [spec_CurvaturesUpTo.l0]
      rw [if_neg (by simp)]
      rfl
    · have := cuS_1 s N 0 [x] (by omega) (by omega) (by simp; omega)
      simpa [marks] using this
  | cons v t ih =>
    intro pre s hs hl hb
    have hv := hb v (by simp)
    have hrd : rd (pre ++ v :: t) (pre.length : Int) = v := by simp [rd]
    have hlt : ((pre.length : Nat) : Int) < ((pre ++ v :: t).length : Int) := by simp only [List.length_append, List.length_cons]; omega
    simp only [List.length_cons] at hl
    have hw : wrap64 ((pre.length : Int) + 1) = ((pre ++ [v]).length : Int) := by rw [wrap_id (by omega) (by omega)]; simp
    refine Ev.step (f := fun k => spec_CurvaturesUpTo.l0 k (s.set v.toNat true) [x] ((pre ++ [v]) ++ t) (((pre ++ [v]) ++ t).length : Int) ((pre ++ [v]).length : Int)) (fun k => ?_) ?_
    · simp only [spec_CurvaturesUpTo.l0]
      rw [if_pos hlt, if_pos (by omega), if_pos hlt, hrd, if_neg (by omega), if_pos (by omega), if_pos (by omega), hw]
      simp
    · exact ih (pre ++ [v]) (s.set v.toNat true) (by simpa using hs) (by simp; omega) (fun y hy => hb y (by simp [hy]))
theorem strict_ext {l m : List Int} (hl : l.Pairwise (fun a b => a < b)) (hm : m.Pairwise (fun a b => a < b)) (h : ∀ y, y ∈ l ↔ y ∈ m) : l = m := by
  have nl : l.Nodup := hl.imp (fun h => Int.ne_of_lt h)
  have nm : m.Nodup := hm.imp (fun h => Int.ne_of_lt h)
  exact List.Perm.eq_of_pairwise (le := fun a b => a ≤ b) (fun _ _ _ _ h1 h2 => Int.le_antisymm h1 h2) (hl.imp (fun h => Int.le_of_lt h)) (hm.imp (fun h => Int.le_of_lt h)) ((List.perm_ext_iff_of_nodup nl nm).2 h)
theorem cp_get (zs : List Int) (j : Nat) (h : j < zs.length) : zs.toArray[j]! = zs[j] := by simp [h]
theorem cp_mem (zs : List Int) (y : Int) : y ∈ Lib.compact zs ↔ y ∈ zs := by
  unfold Lib.compact Lib.compactUpTo
  constructor
  · intro h
    obtain ⟨j, hj, rfl⟩ := List.mem_map.1 h
    rw [List.mem_filter, List.mem_range] at hj
    rw [cp_get zs j hj.1]
    exact List.getElem_mem _
  · intro h
    obtain ⟨j, hj, rfl⟩ := List.getElem_of_mem h
    clear h
    induction j with
    | zero => exact List.mem_map.2 ⟨0, by rw [List.mem_filter, List.mem_range]; exact ⟨hj, by simp [Lib.keeps]⟩, cp_get zs 0 hj⟩
    | succ j ih =>
      by_cases hk : Lib.keeps zs.toArray (j + 1) = true
      · exact List.mem_map.2 ⟨j + 1, by rw [List.mem_filter, List.mem_range]; exact ⟨hj, hk⟩, cp_get zs (j + 1) hj⟩
      · have he : zs.toArray[j + 1]! = zs.toArray[j]! := by
          simp only [Lib.keeps, decide_eq_true_eq, not_or, Nat.add_sub_cancel] at hk
          exact Decidable.of_not_not hk.2
        rw [cp_get zs (j + 1) hj, cp_get zs j (by omega)] at he
        rw [he]
        exact ih (by omega)
theorem cp_pw (zs : List Int) (hs : zs.Pairwise (fun a b => a ≤ b)) : (Lib.compact zs).Pairwise (fun a b => a < b) := by
  unfold Lib.compact Lib.compactUpTo
  have hm : ∀ a b (ha : a < zs.length) (hb : b < zs.length), a ≤ b → zs[a] ≤ zs[b] := fun a b ha hb hab => by
    by_cases h : a = b
    · subst h; exact Int.le_refl _
    · exact List.pairwise_iff_getElem.1 hs a b ha hb (by omega)
  rw [List.pairwise_map]
  have h0 : ((List.range zs.length).filter (Lib.keeps zs.toArray)).Pairwise (fun a b => a < b) := List.pairwise_lt_range.filter _
  refine h0.imp_of_mem (fun {i j} hi hj hij => ?_)
  rw [List.mem_filter, List.mem_range] at hi hj
  have hk := hj.2
  simp only [Lib.keeps, decide_eq_true_eq] at hk
  have hk2 : zs.toArray[j]! ≠ zs.toArray[j - 1]! := by
    rcases hk with h | h
    · omega
    · exact h
  rw [cp_get zs j hj.1, cp_get zs (j - 1) (by omega)] at hk2
  rw [cp_get zs i hi.1, cp_get zs j hj.1]
  have a1 := hm i (j - 1) hi.1 (by omega) (by omega)
  have a2 := hm (j - 1) j (by omega) hj.1 (by omega)
  omega
theorem curv_both (l : List Int) (a1 : Int) (hl : (l.length : Int) ≤ 9223372036854775806) : ∃ p b, Ev (fun k => spec_CurvaturesUpTo.f k l a1) (p, b) ∧ Ev (fun k => impl_CurvaturesUpTo.f k l a1) (p, b) ∧ p.length ≤ 1000 := by
  rcases all_ev l a1 hl with ⟨e1, e2⟩ | ⟨x, rest, e1, e2, h0, hr, hlr, h1, h5⟩
  · refine ⟨[], false, ?_, ?_, by simp⟩
    · unfold spec_CurvaturesUpTo.f
      refine Ev.bind e1 ?_
      simp only [Bool.false_eq_true, if_false]
      exact Ev.now _
    · unfold impl_CurvaturesUpTo.f
      refine Ev.bind e2 ?_
      simp only [Bool.false_eq_true, if_false]
      exact Ev.now _
  · obtain ⟨N, hN⟩ : ∃ N : Nat, a1 + 1 = (N : Int) := ⟨(a1 + 1).toNat, by omega⟩
    have hw : wrap64 (a1 + 1) = (N : Int) := by rw [wrap_id (by omega) (by omega)]; exact hN
    have hml := marks_len rest (List.replicate N false)
    rw [List.length_replicate] at hml
    have hmk : ∀ j : Nat, j < N → ((marks (List.replicate N false) rest).getD j false = true ↔ ∃ v ∈ rest, v.toNat = j) := fun j hj => by
      rw [marks_get rest _ j (by simpa using hj)]
      have : (List.replicate N false).getD j false = false := by simp [List.getD_eq_getElem?_getD, List.getElem?_replicate, hj]
      rw [this]
      simp
    have htl := told_len (marks (List.replicate N false) rest) N 0
    have hV : Lib.compact (sortI (x :: rest)) = x :: told (marks (List.replicate N false) rest) 0 N := by
      refine strict_ext (cp_pw _ (sortI_pw _)) (List.pairwise_cons.2 ⟨fun y hy => ?_, told_pw _ _ _⟩) (fun y => ?_)
      · obtain ⟨j, _, _, _, rfl⟩ := (told_mem _ _ _ _).1 hy
        omega
      · rw [cp_mem, (sortI_perm _).mem_iff, List.mem_cons, List.mem_cons, told_mem]
        constructor
        · rintro (h | h)
          · exact .inl h
          · have hy := hr y h
            refine .inr ⟨y.toNat, by omega, by omega, (hmk _ (by omega)).2 ⟨y, h, rfl⟩, by omega⟩
        · rintro (h | ⟨j, _, h2, h3, rfl⟩)
          · exact .inl h
          · obtain ⟨v, hv, hvj⟩ := (hmk j (by omega)).1 h3
            have hy := hr v hv
            rw [show (j : Int) = v by omega]
            exact .inr hv
    refine ⟨x :: told (marks (List.replicate N false) rest) 0 N, true, ?_, ?_, by simp only [List.length_cons]; omega⟩
    · unfold spec_CurvaturesUpTo.f
      refine Ev.bind e1 ?_
      simp only [if_true, hw, Int.toNat_natCast, if_pos (show (0 : Int) ≤ (N : Int) by omega), if_pos (show N ≤ 281474976710656 by omega)]
      have h2 := cuS_0 N (by omega) x rest [x] (List.replicate N false) (by simp) (by simp; omega) (fun y hy => by have := hr y hy; omega)
      refine Ev.step (f := fun k => spec_CurvaturesUpTo.l0 k (List.replicate N false) [x] ([x] ++ rest) (([x] ++ rest).length : Int) (([x] : List Int).length : Int)) (fun k => ?_) h2
      have hrd : rd (x :: rest) 0 = x := by simp [rd]
      simp only [spec_CurvaturesUpTo.l0]
      rw [if_pos (by simp <;> omega), if_pos (by omega), if_pos (by simp <;> omega), hrd, if_pos h0, if_pos (by simp), wrap_id (by omega) (by omega)]
      rfl
    · unfold impl_CurvaturesUpTo.f
      refine Ev.bind e2 ?_
      have hsl : (sortI (x :: rest)).length = rest.length + 1 := by rw [sortI_len]; rfl
      have hc : slices_Compact_int_int.f (sortI (x :: rest)) = some (x :: told (marks (List.replicate N false) rest) 0 N) := by
        unfold slices_Compact_int_int.f
        rw [if_pos (by rw [decide_eq_true (show 0 < (sortI (x :: rest)).length by omega), decide_eq_true (show (sortI (x :: rest)).length < 4611686018427387904 by omega)]; rfl), hV]
      have hcl := clone_f (x :: told (marks (List.replicate N false) rest) 0 N) (by simp only [List.length_cons]; omega)
      simp only [if_true, hc, Option.bind_some, hcl]
      exact Ev.now _
theorem FnExactCurvaturesUpTo : laws_FnExactCurvaturesUpTo.Pure := by
  intro l i hm hc hw _
  have hml : l.length ≤ 35184372088832 := by omega
  suffices h : Ev (fun k => laws_FnExactCurvaturesUpTo.f k l i) true by
    obtain ⟨K, h⟩ := h
    exact ⟨K, h K (Nat.le_refl _)⟩
  unfold laws_FnExactCurvaturesUpTo.f
  by_cases hb : (l.length : Int) > 1048576
  · simp only [if_pos hb]
    exact Ev.now _
  · simp only [if_neg hb]
    have hto := toIntS_ev l hml
    have hel := eqIntS_ev l (by omega)
    have hml := markIntS_ev l (by omega)
    obtain ⟨p, b, hp, hq, hpl⟩ := curv_both l i (by omega)
    have hep := eqIntS_ev p (by omega)
    have hmp := markIntS_ev p (by omega)
    have hhp := heldIntS_ev p.length (by omega)
    have n1 : ¬ (1 + (l.length : Int) < 0) := by omega
    have n2 : ¬ (1 + (p.length : Int) < 0) := by omega
    repeat (first
      | with_reducible exact Ev.now _
      | with_reducible refine Ev.bind hto ?_
      | with_reducible refine Ev.bind hp ?_
      | with_reducible refine Ev.bind hq ?_
      | with_reducible refine Ev.bind hel ?_
      | with_reducible refine Ev.bind hep ?_
      | with_reducible refine Ev.bind hml ?_
      | with_reducible refine Ev.bind hmp ?_
      | with_reducible refine Ev.bind hhp ?_
      | with_reducible refine Ev.step (fun _ => laws_FnExactCurvaturesUpTo.j0.eq_2 ..) ?_
      | with_reducible refine Ev.step (fun _ => laws_FnExactCurvaturesUpTo.j1.eq_2 ..) ?_
      | with_reducible refine Ev.step (fun _ => laws_FnExactCurvaturesUpTo.j2.eq_2 ..) ?_
      | simp only [bne_self_eq_false, Bool.false_eq_true, if_true, if_false, eq_self, n1, n2])

end Go.Proofs.Ytmjodkckffmnaaa.Pure
