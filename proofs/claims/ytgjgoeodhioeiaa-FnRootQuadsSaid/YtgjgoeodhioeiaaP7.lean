/- Written by a program of this session: for Go functions that a statement reaches, Lean functions with the same answers and the proofs that the calls come to them; conditions: none but the arguments' kinds. -/
import Derived.Test.YtgjgoeodhioeiaaP0
import Derived.Test.YtgjgoeodhioeiaaP5
import Derived.Test.YtgjgoeodhioeiaaP6
namespace Go.Proofs.Ytgjgoeodhioeiaa.P
open Go.RowKit Go.Proofs.YtgjgoeodhioeiaaW.PrintWords Go.Proofs.YtgjgoeodhioeiaaW.PrintLast Go.Proofs.YtgjgoeodhioeiaaW.PrintMore
attribute [local go_sem] max2_int min2_int max_two min_two max_three min_three max_four min_four   -- for this text's walks alone
set_option linter.unusedVariables false
set_option linter.unusedSimpArgs false

/-! ### slices_SortFunc_int_int: function 31 -/
open Go.Shelf in
def laysSF_ren : Go.Shelf.Ren := ⟨fun | 6 => 31 | 15 => 48 | 14 => 49 | 28 => 67 | 29 => 68 | 20 => 69 | 21 => 70 | 22 => 71 | 23 => 72 | 24 => 73 | 25 => 74 | 26 => 75 | 27 => 76 | 46 => 87 | 47 => 83 | 48 => 84 | 49 => 88 | 50 => 89 | 57 => 92 | n => n, fun | 22 => 25 | 24 => 29 | 25 => 54 | 3 => 3 | 39 => 65 | 0 => 0 | 53 => 78 | 55 => 38 | 4 => 4 | 46 => 72 | 45 => 71 | 50 => 34 | 5 => 5 | 9 => 9 | 66 => 87 | 70 => 91 | 76 => 95 | 77 => 96 | n => n, fun | n => n⟩
theorem laysSF : Go.Proofs.SlLaysF.n6 Try.prog laysSF_ren := {
  mixed := by kernel_rfl
  f6 := ⟨Try.f31.name, by decide, Try.func31.trans (congrArg some (by kernel_rfl))⟩
  f14 := ⟨Try.f49.name, by decide, Try.func49.trans (congrArg some (by kernel_rfl))⟩
  f15 := Try.func48.trans (congrArg some (by kernel_rfl))
  f20 := ⟨Try.f69.name, by decide, Try.func69.trans (congrArg some (by kernel_rfl))⟩
  f21 := ⟨Try.f70.name, by decide, Try.func70.trans (congrArg some (by kernel_rfl))⟩
  f22 := ⟨Try.f71.name, by decide, Try.func71.trans (congrArg some (by kernel_rfl))⟩
  f23 := ⟨Try.f72.name, by decide, Try.func72.trans (congrArg some (by kernel_rfl))⟩
  f24 := ⟨Try.f73.name, by decide, Try.func73.trans (congrArg some (by kernel_rfl))⟩
  f25 := ⟨Try.f74.name, by decide, Try.func74.trans (congrArg some (by kernel_rfl))⟩
  f26 := ⟨Try.f75.name, by decide, Try.func75.trans (congrArg some (by kernel_rfl))⟩
  f27 := ⟨Try.f76.name, by decide, Try.func76.trans (congrArg some (by kernel_rfl))⟩
  f28 := Try.func67.trans (congrArg some (by kernel_rfl))
  f29 := Try.func68.trans (congrArg some (by kernel_rfl))
  f46 := ⟨Try.f87.name, by decide, Try.func87.trans (congrArg some (by kernel_rfl))⟩
  f47 := Try.func83.trans (congrArg some (by kernel_rfl))
  f48 := Try.func84.trans (congrArg some (by kernel_rfl))
  f49 := ⟨Try.f88.name, by decide, Try.func88.trans (congrArg some (by kernel_rfl))⟩
  f50 := ⟨Try.f89.name, by decide, Try.func89.trans (congrArg some (by kernel_rfl))⟩
  f57 := ⟨Try.f92.name, by decide, Try.func92.trans (congrArg some (by kernel_rfl))⟩
  t0 := Try.underlying0
  a0 := Try.isAgg0
  z0 := Try.sizeOf0
  v0 := Try.zeroValue0
  t3 := Try.underlying3
  a3 := Try.isAgg3
  z3 := Try.sizeOf3
  v3 := Try.zeroValue3
  t4 := Try.underlying4
  a4 := Try.isAgg4
  z4 := Try.sizeOf4
  v4 := Try.zeroValue4
  t5 := Try.underlying5
  a5 := Try.isAgg5
  z5 := Try.sizeOf5
  v5 := Try.zeroValue5
  t9 := Try.underlying9
  a9 := Try.isAgg9
  z9 := Try.sizeOf9
  v9 := Try.zeroValue9
  t22 := Try.underlying25
  a22 := Try.isAgg25
  z22 := Try.sizeOf25
  v22 := Try.zeroValue25
  a24 := Try.isAgg29
  z24 := Try.sizeOf29
  t25 := Try.underlying54
  a25 := Try.isAgg54
  z25 := Try.sizeOf54
  v25 := Try.zeroValue54
  t39 := Try.underlying65
  a39 := Try.isAgg65
  z39 := Try.sizeOf65
  v39 := Try.zeroValue65
  t45 := Try.underlying71
  a45 := Try.isAgg71
  z45 := Try.sizeOf71
  v45 := Try.zeroValue71
  t46 := Try.underlying72
  a46 := Try.isAgg72
  z46 := Try.sizeOf72
  v46 := Try.zeroValue72
  t50 := Try.underlying34
  a50 := Try.isAgg34
  z50 := Try.sizeOf34
  v50 := Try.zeroValue34
  t53 := Try.underlying78
  a53 := Try.isAgg78
  z53 := Try.sizeOf78
  v53 := Try.zeroValue78
  t55 := Try.underlying38
  a55 := Try.isAgg38
  z55 := Try.sizeOf38
  v55 := Try.zeroValue38
  t66 := Try.underlying87
  a66 := Try.isAgg87
  z66 := Try.sizeOf87
  v66 := Try.zeroValue87
  t70 := Try.underlying91
  a70 := Try.isAgg91
  z70 := Try.sizeOf91
  v70 := Try.zeroValue91
  t76 := Try.underlying95
  a76 := Try.isAgg95
  z76 := Try.sizeOf95
  v76 := Try.zeroValue95
  t77 := Try.underlying96
  a77 := Try.isAgg96
  z77 := Try.sizeOf96
  v77 := Try.zeroValue96 }

/-- Rows compared, the least first. -/
def cmpL : List Int → List Int → Int
  | [], [] => 0
  | [], _ :: _ => -1
  | _ :: _, [] => 1
  | a :: x, b :: y => if a < b then -1 else if b < a then 1 else cmpL x y
theorem cmpL_self : ∀ x, cmpL x x = 0
  | [] => rfl
  | a :: x => by
    simp only [cmpL]
    rw [if_neg (by omega), if_neg (by omega)]
    exact cmpL_self x
theorem cmpL_trans : ∀ x y z, cmpL x y < 0 → cmpL y z < 0 → cmpL x z < 0
  | [], [], _, h, _ => by simp [cmpL] at h
  | [], _ :: _, [], _, h => by simp [cmpL] at h
  | [], _ :: _, _ :: _, _, _ => by simp [cmpL]
  | _ :: _, [], _, h, _ => by simp [cmpL] at h
  | _ :: _, _ :: _, [], _, h => by simp [cmpL] at h
  | a :: x, b :: y, c :: z, h1, h2 => by
    simp only [cmpL] at h1 h2 ⊢
    have ih := cmpL_trans x y z
    rcases Int.lt_trichotomy a b with e | e | e
    · rcases Int.lt_trichotomy b c with f | f | f
      · rw [if_pos (show a < c by omega)]; decide
      · rw [if_pos (show a < c by omega)]; decide
      · rw [if_neg (by omega), if_pos f] at h2; simp at h2
    · rcases Int.lt_trichotomy b c with f | f | f
      · rw [if_pos (show a < c by omega)]; decide
      · rw [if_neg (by omega), if_neg (by omega)] at h1 h2 ⊢
        exact ih h1 h2
      · rw [if_neg (by omega), if_pos f] at h2; simp at h2
    · rw [if_neg (by omega), if_pos e] at h1; simp at h1
theorem cmpL_ntrans : ∀ x y z, ¬ cmpL x y < 0 → ¬ cmpL y z < 0 → ¬ cmpL x z < 0
  | _, [], [], h, _ => h
  | [], [], _ :: _, _, h => absurd (by simp [cmpL]) h
  | _ :: _, [], _ :: _, _, h => absurd (by simp [cmpL]) h
  | [], _ :: _, _, h, _ => absurd (by simp [cmpL]) h
  | _ :: _, _ :: _, [], _, _ => by simp [cmpL]
  | a :: x, b :: y, c :: z, h1, h2 => by
    simp only [cmpL] at h1 h2 ⊢
    have ih := cmpL_ntrans x y z
    rcases Int.lt_trichotomy a b with e | e | e
    · rw [if_pos e] at h1; simp at h1
    · rcases Int.lt_trichotomy b c with f | f | f
      · rw [if_pos f] at h2; simp at h2
      · rw [if_neg (by omega), if_neg (by omega)] at h1 h2 ⊢
        exact ih h1 h2
      · rw [if_neg (by omega), if_pos (show c < a by omega)]; decide
    · rcases Int.lt_trichotomy b c with f | f | f
      · rw [if_pos f] at h2; simp at h2
      · rw [if_neg (by omega), if_pos (show c < a by omega)]; decide
      · rw [if_neg (by omega), if_pos (show c < a by omega)]; decide
theorem slCmp_l (l m : List Int) (hl : (l.length : Int) ≤ 9223372036854775807) (d : Nat) : ∀ (i k : Nat), i + d = l.length → d < k → slices_Compare_int_int.l0 k l m l (l.length : Int) (i : Int) = some (cmpL (l.drop i) (m.drop i)) := by
  induction d with
  | zero =>
    intro i k hi hk
    obtain ⟨k, rfl⟩ : ∃ q, k = q + 1 := ⟨k - 1, by omega⟩
    simp only [slices_Compare_int_int.l0]
    rw [if_neg (by omega), List.drop_eq_nil_of_le (by omega : l.length ≤ i)]
    by_cases hm : m.length ≤ i
    · rw [if_neg (by omega), List.drop_eq_nil_of_le hm]; rfl
    · rw [if_pos (by omega), List.drop_eq_getElem_cons (by omega)]; rfl
  | succ d ih =>
    intro i k hi hk
    obtain ⟨k, rfl⟩ : ∃ q, k = q + 1 := ⟨k - 1, by omega⟩
    have h1 : i < l.length := by omega
    have r1 : rd l (i : Int) = l[i] := by simp [rd, List.getD_eq_getElem?_getD, List.getElem?_eq_getElem h1]
    simp only [slices_Compare_int_int.l0]
    rw [if_pos (by omega), if_pos (by omega), if_pos (by omega), r1, List.drop_eq_getElem_cons h1]
    by_cases hm : m.length ≤ i
    · rw [if_pos (by omega), List.drop_eq_nil_of_le hm]; rfl
    · have h2 : i < m.length := by omega
      have r2 : rd m (i : Int) = m[i] := by simp [rd, List.getD_eq_getElem?_getD, List.getElem?_eq_getElem h2]
      rw [if_neg (by omega), if_pos (by omega), r2, List.drop_eq_getElem_cons h2]
      simp only [cmpL, cmp_Compare_int.f, cmp_isNaN_int.f, Option.bind_some, bne_self_eq_false, Bool.false_eq_true, if_false]
      by_cases e : l[i] < m[i]
      · rw [if_pos e, if_pos e]; rfl
      · by_cases e' : m[i] < l[i]
        · rw [if_neg e, if_neg e, if_pos e', if_pos (show l[i] > m[i] from e')]; rfl
        · rw [if_neg e, if_neg e, if_neg e', if_neg (show ¬ l[i] > m[i] from e'), show wrap64 ((i : Int) + 1) = ((i + 1 : Nat) : Int) by unfold wrap64; omega]
          simp only [Option.bind_some, if_true]
          exact ih (i + 1) k (by omega) (by omega)
theorem slCmp_f (l m : List Int) (hl : (l.length : Int) ≤ 9223372036854775807) : slices_Compare_int_int.f (l.length + 1) l m = some (cmpL l m) := by
  unfold slices_Compare_int_int.f
  have := slCmp_l l m hl l.length 0 (l.length + 1) (by omega) (by omega)
  simpa using this
/-- Each row comes before the next. -/
def risingB : List (List Int) → Bool
  | a :: b :: r => decide (cmpL a b < 0) && risingB (b :: r)
  | _ => true
theorem risingB_pw : ∀ l : List (List Int), risingB l = true → l.Pairwise (fun a b => cmpL a b < 0)
  | [], _ => List.Pairwise.nil
  | [_], _ => List.pairwise_singleton _ _
  | a :: b :: r, h => by
    simp only [risingB, Bool.and_eq_true, decide_eq_true_eq] at h
    have ih := risingB_pw (b :: r) h.2
    refine List.pairwise_cons.2 ⟨fun x hx => ?_, ih⟩
    rcases List.mem_cons.1 hx with rfl | hx
    · exact h.1
    · exact cmpL_trans _ _ _ h.1 ((List.pairwise_cons.1 ih).1 x hx)
theorem sortHeap {α : Type} [Inhabited α] (enc : α → Value) (w : World) (g m : Nat) (d : Array α) (os : Array Obj) (k : Nat) (hk : k < w.heap.size) (hne : k ≠ g) : (Go.Sort.grow (Go.Sort.putRow enc (Go.Sort.ahead w m) g 0 d) os).heap[k]? = w.heap[k]? := by
  rw [Go.Sort.heap_grow_old _ _ (by simpa using hk)]
  simp [Go.Sort.putRow, Go.Sort.mapBlock, Go.Sort.ahead, Array.getElem?_modify, Ne.symm hne]
def slices_SortFunc_int_int.f (l0 : List (List Int)) : Option (List (List Int)) := if (decide (0 < l0.length) && decide (l0.length < 4611686018427387904) && risingB l0) = true then some l0 else none
set_option maxHeartbeats 8000000 in
set_option maxRecDepth 100000 in
theorem slices_SortFunc_int_int.calls (P0_ : Nat → Prop) (u9000_ : Value) (l0 r : List (List Int)) (w0 w : World) (hB : Below w0.heap.size w0 w) (ho0 : Kd.S (Kd.slice 3 (Kd.int .i64)) 29 w w0.heap.size P0_ u9000_ l0) (h : slices_SortFunc_int_int.f l0 = some r) :
    Calls Try.prog 31 #[u9000_, .func (.func 32) #[] #[]] w fun e w' => e = .returned (.tuple #[]) ∧ Kd.S (Kd.slice 3 (Kd.int .i64)) 29 w' w0.heap.size (fun k_ => (P0_ k_ ∨ w.heap.size ≤ k_)) u9000_ r ∧ Below w0.heap.size w0 w' ∧ Kept w w' (fun k_ => P0_ k_) := by
  have hl : (0 < l0.length ∧ l0.length < 4611686018427387904 ∧ risingB l0 = true) ∧ l0 = r := by
    unfold slices_SortFunc_int_int.f at h
    split at h
    · rename_i h1
      simp only [Bool.and_eq_true, decide_eq_true_eq] at h1
      exact ⟨⟨h1.1.1, h1.1.2, h1.2⟩, Option.some.inj h⟩
    · cases h
  obtain ⟨⟨hpos, hsz, hris⟩, rfl⟩ := hl
  obtain ⟨g, cap, rfl, hbase, hgl, cells, hgb⟩ := Kd.S_form ho0 hpos
  have hR := Kd.S_R ho0
  obtain ⟨hk0, inner, hown, hrep⟩ := hR
  have hil : inner.length = l0.length := by have := hrep.1; simpa [Kd.slice] using this
  have hrow : ∀ i : Fin l0.length, ∃ A c, inner[i.1]'(by omega) = .slice A (l0[i.1]).length c ∧ (Kd.int .i64).R 3 w w0.heap.size (fun k_ => P0_ k_ ∧ k_ ≠ g) (.slice A (l0[i.1]).length c) l0[i.1] := by
    intro i
    obtain ⟨v, hv, hr⟩ := hrep.2 i.1 _ (List.getElem?_eq_getElem i.2)
    have e1 : (inner.drop (i.1 * 1)).take 1 = [inner[i.1]'(by omega)] := by
      rw [Nat.mul_one, List.drop_eq_getElem_cons (by omega)]; rfl
    have e2 : [inner[i.1]'(by omega)] = [v] := e1.symm.trans hv
    obtain ⟨A, c, e3⟩ := Kd.R_slice hr
    refine ⟨A, c, by rw [← e3]; exact List.head_eq_of_cons_eq e2, ?_⟩
    rw [← e3]
    exact Kd.R_mono hr (fun k hk => ⟨hk.1, fun e_ => hk.2 (by rw [e_]; rfl)⟩)
  haveI : Inhabited (Fin l0.length) := ⟨⟨0, hpos⟩⟩
  let enc : Fin l0.length → Value := fun i => inner[i.1]'(by omega)
  let cf : Fin l0.length → Fin l0.length → Int := fun i j => cmpL l0[i.1] l0[j.1]
  let d : Array (Fin l0.length) := (List.finRange l0.length).toArray
  have hd : d.size = l0.length := by simp [d]
  have h1 : OneCell enc := fun i => by
    obtain ⟨A, c, e, _⟩ := hrow i
    show (inner[i.1]'(by omega)).oneCell' = true
    rw [e]; rfl
  have hO : Go.Sort.SWO (ltOf cf) := ⟨fun i => by simp [ltOf, cf, cmpL_self], fun i j k a b => by simp only [ltOf, cf, decide_eq_true_eq] at *; exact cmpL_trans _ _ _ a b, fun i j k a b => by simp only [ltOf, cf, decide_eq_false_iff_not] at *; exact cmpL_ntrans _ _ _ a b⟩
  have eg := enters_of Try.func32 (by kernel_rfl) rfl
  have hcmp : CmpReads Try.prog 32 #[] enc cf g 0 d.size w := by
    intro m os dk _ i j
    obtain ⟨A1, c1, e1, r1⟩ := hrow i
    obtain ⟨A2, c2, e2, r2⟩ := hrow j
    have q1 := Kd.R_step (w1 := Go.Proofs.sortWorld enc w g 0 m dk os) r1 (fun k hk hlt => sortHeap enc w g m dk os k hlt hk.2)
    have q2 := Kd.R_step (w1 := Go.Proofs.sortWorld enc w g 0 m dk os) r2 (fun k hk hlt => sortHeap enc w g m dk os k hlt hk.2)
    have hc := slices_Compare_int_int.calls (l0[i.1].length + 1) A1 c1 l0[i.1] A2 c2 l0[j.1] (cf i j) (Go.Proofs.sortWorld enc w g 0 m dk os) (Kd.R_reads' q1).2.2 (Kd.R_reads' q1).2.1 (Kd.R_reads' q2).2.2 (Kd.R_reads' q2).2.1 (slCmp_f _ _ (by have := (Kd.R_reads' q1).2.2.2.1; omega))
    have ea : (#[enc i, enc j] ++ #[] : Array Value) = #[.slice A1 (l0[i.1]).length c1, .slice A2 (l0[j.1]).length c2] := by
      show #[enc i, enc j] = _
      rw [show enc i = _ from e1, show enc j = _ from e2]
    rw [ea]
    exact hc.mono fun e w' ⟨he, hw⟩ => ⟨he, hw.out⟩
  have hH : Go.Sort.Holds enc w g 0 d := by
    intro j hj
    have hj' : j < l0.length := by omega
    have e1 : d[j]! = (⟨j, hj'⟩ : Fin l0.length) := by
      rw [getElem!_pos _ j hj]
      simp [d]
    have hcell := hown.cells (g := g) rfl j _ (List.getElem?_eq_getElem (show j < inner.length by omega))
    refine ⟨?_, by simp [World.frozen?, hgb]⟩
    rw [e1, Nat.zero_add]
    rwa [add_plain] at hcell
  have hcon := Any.slices_SortFunc laysSF enc h1 cf hO 32 #[] g 0 cap d w eg hcmp.lays hH hgl (by omega)
  change Calls Try.prog 31 _ _ _ at hcon
  rw [hd] at hcon
  refine hcon.mono ?_
  rintro e w' ⟨rfl, d', n, os, hp, hs, rfl⟩
  have hpw := risingB_pw l0 hris
  have hT : ∀ x y, (ltOf cf) x y = false → (ltOf cf) y x = false → x = y := by
    intro x y a b
    simp only [ltOf, cf, decide_eq_false_iff_not] at a b
    rcases Nat.lt_trichotomy x.1 y.1 with e | e | e
    · exact absurd (List.pairwise_iff_getElem.1 hpw x.1 y.1 x.2 y.2 e) a
    · exact Fin.ext e
    · exact absurd (List.pairwise_iff_getElem.1 hpw y.1 x.1 y.2 x.2 e) b
  have hdd : d' = d := by
    have hu := Go.Sort.sorted_unique_holds hO hT d d' (by rw [hd]; exact hp) (by rw [hd]; exact hs)
    have : d.toList.mergeSort (fun x y => !(ltOf cf) y x) = d.toList := by
      refine List.mergeSort_of_pairwise ?_
      simp only [d]
      rw [List.pairwise_iff_getElem]
      intro i j hi hj hij
      simp only [List.getElem_finRange, ltOf, cf, Bool.not_eq_true', decide_eq_false_iff_not]
      have hi' : i < l0.length := by simpa using hi
      have hj' : j < l0.length := by simpa using hj
      have h3 := List.pairwise_iff_getElem.1 hpw i j hi' hj' hij
      intro h4
      have h5 := cmpL_trans _ _ _ h3 (by simpa using h4)
      rw [cmpL_self] at h5
      omega
    rw [this] at hu
    exact Array.toList_inj.1 hu
  have hww : Go.Proofs.sortWorld enc w g 0 n d' os = Go.Sort.grow (Go.Sort.ahead w n) os := by
    rw [hdd]
    show Go.Sort.grow (Go.Sort.putRow enc (Go.Sort.ahead w n) g 0 d) os = _
    rw [Go.Sort.putRow_self enc (Go.Sort.ahead w n) g 0 d (fun j hj => hH j hj)]
  rw [hww]
  have hbw : Below w.heap.size w (Go.Sort.grow (Go.Sort.ahead w n) os) := ⟨rfl, rfl, rfl, by simp, fun k hk => by rw [Go.Sort.heap_grow_old _ _ (by simpa using hk)]; rfl⟩
  exact ⟨rfl, Kd.S_mono (Kd.S_below ho0 hbw) (fun _ hk => .inl hk), below_then hB hB.size hbw, Kept.of_below hbw _⟩

/-! ### slices_Equal_int_int: function 34 -/
def slices_Equal_int_int.l0 : Nat → List Int → List Int → Int → Int → Option (Bool)
  | 0, _, _, _, _ => none
  | k + 1, x0, x1, x12, x13 => if x13 < x12 then (if 0 ≤ x13 then (if x13 < (x0.length : Int) then (if x13 < (x1.length : Int) then (if (rd x0 x13) = (rd x1 x13) then (slices_Equal_int_int.l0 k x0 x1 x12 (wrap64 (x13 + 1))) else (some false)) else (none)) else (none)) else (none)) else (some true)
def slices_Equal_int_int.f (k : Nat) (l0 : List Int) (l1 : List Int) : Option (Bool) := if (l0.length : Int) = (l1.length : Int) then (slices_Equal_int_int.l0 k l0 l1 (l0.length : Int) 0) else (some false)
theorem slices_Equal_int_int.mono_l : ∀ k, (∀ y0 y1 y2 y3, LeO (slices_Equal_int_int.l0 k y0 y1 y2 y3) (slices_Equal_int_int.l0 (k + 1) y0 y1 y2 y3))
  | 0 => fun _ _ _ _ r h => by simp [slices_Equal_int_int.l0] at h
  | k + 1 => by
    have ih0 := slices_Equal_int_int.mono_l k
    · intro y0 y1 y2 y3
      unfold slices_Equal_int_int.l0
      repeat' first
      | (with_reducible exact ih0 _ _ _ _)
      | (with_reducible exact LeO.refl _)
      | (with_reducible exact LeO.none _)
      | (with_reducible refine LeO.ite ?_ ?_)
      | (with_reducible refine LeO.bind ?_ (fun _ => ?_))
      | exact ih0 _ _ _ _
      | exact LeO.none _
      | refine LeO.ite ?_ ?_
      | refine LeO.bind ?_ (fun _ => ?_)
theorem slices_Equal_int_int.mono : ∀ a0 a1 k, LeO (slices_Equal_int_int.f k a0 a1) (slices_Equal_int_int.f (k + 1) a0 a1) := by
  intro a0 a1 k
  have ih0 := slices_Equal_int_int.mono_l k
  unfold slices_Equal_int_int.f
  repeat' first
      | (with_reducible exact ih0 _ _ _ _)
      | (with_reducible exact LeO.refl _)
      | (with_reducible exact LeO.none _)
      | (with_reducible refine LeO.ite ?_ ?_)
      | (with_reducible refine LeO.bind ?_ (fun _ => ?_))
      | exact ih0 _ _ _ _
      | exact LeO.none _
      | refine LeO.ite ?_ ?_
      | refine LeO.bind ?_ (fun _ => ?_)
set_option maxHeartbeats 8000000 in
set_option maxRecDepth 100000 in
theorem slices_Equal_int_int.calls (k : Nat) (A0 : Option Addr) (c0 : Nat) (l0 : List Int) (A1 : Option Addr) (c1 : Nat) (l1 : List Int) (r : Bool) (w : World) (hr0 : Kd.C (Kd.int .i64) w A0 l0.length l0) (hc0 : l0.length ≤ c0) (hr1 : Kd.C (Kd.int .i64) w A1 l1.length l1) (hc1 : l1.length ≤ c1) (h : slices_Equal_int_int.f k l0 l1 = some r) :
    Calls Try.prog 34 #[.slice A0 l0.length c0, .slice A1 l1.length c1] w fun e w' => e = .returned (.bool r) ∧ Drawn0 w w' := by
  have HR0 := Aside0.mk hr0
  have HC0 := Aside0.mk hc0
  clear hr0 hc0
  have HR1 := Aside0.mk hr1
  have HC1 := Aside0.mk hc1
  clear hr1 hc1
  have H : (if (l0.length : Int) = (l1.length : Int) then (slices_Equal_int_int.l0 k l0 l1 (l0.length : Int) 0) else (some false)) = some r := h
  clear h
  by_cases c3 : (l0.length : Int) = (l1.length : Int)
  · rw [if_pos c3] at H
    have c3b0 : ((l0.length : Int) == (l1.length : Int)) = true := beq_iff_eq.mpr c3
    have c3b1 : ((l0.length : Int) != (l1.length : Int)) = false := bne_eq_false_iff_eq.mpr c3
    have c3b2 : (l0.length == l1.length) = true := by first | simpa using c3 | (simp at c3 ⊢; omega)
    clear c3
    have H' := Aside0.mk H
    clear H
    go_enter Try.func34, Try.ntmps34
    go_wp2
    repeat (go_quiet (fail); try go_wp2)
    go_loopg [13] k (fun kq v13 w' => ∃ (x13_1 : Int), v13 = .int .i64 x13_1 ∧ Aside0 (slices_Equal_int_int.l0 kq l0 l1 (l0.length : Int) x13_1 = some r) ∧ Aside0 (kq ≤ k) ∧ Drawn0 w w')
    case atStart => exact ⟨(0), (by first | rfl | (simp; done) | (simp [*]; done)), H', ⟨Nat.le_refl _⟩, by repeat (first | exact Drawn0.refl _ | apply Drawn0.step)⟩
    case round =>
      clear H'
      try clear c1
      try clear p2
      try clear c3
      try clear c3b0
      try clear c3b1
      try clear c3b2
      obtain ⟨x13_1, rfl, HA, HK1, ⟨m1, rfl⟩⟩ := hrel
      cases gk with
      | zero => exact absurd HA.out (by simp [slices_Equal_int_int.l0])
      | succ k1 =>
        have H := HA.out
        clear HA
        simp only [slices_Equal_int_int.l0] at H
        by_cases c4 : x13_1 < (l0.length : Int)
        · rw [if_pos c4] at H
          have c4b0 : decide (x13_1 < (l0.length : Int)) = true := decide_eq_true c4
          clear c4
          by_cases c5 : 0 ≤ x13_1
          · rw [if_pos c5] at H
            have c5b0 : decide (0 ≤ x13_1) = true := decide_eq_true c5
            clear c5
            by_cases c6 : x13_1 < (l0.length : Int)
            · rw [if_pos c6] at H
              have c6b0 : decide (x13_1 < (l0.length : Int)) = true := decide_eq_true c6
              clear c6
              by_cases c7 : x13_1 < (l1.length : Int)
              · rw [if_pos c7] at H
                have c7b0 : decide (x13_1 < (l1.length : Int)) = true := decide_eq_true c7
                clear c7
                by_cases c8 : (rd l0 x13_1) = (rd l1 x13_1)
                · rw [if_pos c8] at H
                  have c8b0 : ((rd l0 x13_1) == (rd l1 x13_1)) = true := beq_iff_eq.mpr c8
                  have c8b1 : ((rd l0 x13_1) != (rd l1 x13_1)) = false := bne_eq_false_iff_eq.mpr c8
                  clear c8
                  have H' := Aside0.mk H
                  clear H
                  have p144 : 0 ≤ (x13_1 : Int) := of_decide_eq_true (by first | (with_reducible assumption) | assumption)
                  have q144 : x13_1 < (l0.length : Int) := of_decide_eq_true (by first | (with_reducible assumption) | assumption)
                  obtain ⟨ad144, e144, hx144_0⟩ := Kd.at_int HR0.out x13_1 p144 q144
                  cases e144
                  replace p144 := eq_true p144
                  replace q144 := eq_true q144
                  have p145 : 0 ≤ (x13_1 : Int) := of_decide_eq_true (by first | (with_reducible assumption) | assumption)
                  have q145 : x13_1 < (l1.length : Int) := of_decide_eq_true (by first | (with_reducible assumption) | assumption)
                  obtain ⟨ad145, e145, hx145_0⟩ := Kd.at_int HR1.out x13_1 p145 q145
                  cases e145
                  replace p145 := eq_true p145
                  replace q145 := eq_true q145
                  go_wp2
                  repeat (go_quiet (fail); try go_wp2)
                  go_roundg k1
                  case measure => have := HK1.out; omega
                  case rel => exact ⟨(wrap64 (x13_1 + 1)), (by first | rfl | (simp; done) | (simp [*]; done)), H', ⟨by have := HK1.out; omega⟩, by repeat (first | exact Drawn0.refl _ | apply Drawn0.step)⟩
                · rw [if_neg c8] at H
                  have c8b0 : ((rd l0 x13_1) == (rd l1 x13_1)) = false := beq_eq_false_iff_ne.mpr c8
                  have c8b1 : ((rd l0 x13_1) != (rd l1 x13_1)) = true := bne_iff_ne.mpr c8
                  obtain rfl := Option.some.inj H
                  have p144 : 0 ≤ (x13_1 : Int) := of_decide_eq_true (by first | (with_reducible assumption) | assumption)
                  have q144 : x13_1 < (l0.length : Int) := of_decide_eq_true (by first | (with_reducible assumption) | assumption)
                  obtain ⟨ad144, e144, hx144_0⟩ := Kd.at_int HR0.out x13_1 p144 q144
                  cases e144
                  replace p144 := eq_true p144
                  replace q144 := eq_true q144
                  have p145 : 0 ≤ (x13_1 : Int) := of_decide_eq_true (by first | (with_reducible assumption) | assumption)
                  have q145 : x13_1 < (l1.length : Int) := of_decide_eq_true (by first | (with_reducible assumption) | assumption)
                  obtain ⟨ad145, e145, hx145_0⟩ := Kd.at_int HR1.out x13_1 p145 q145
                  cases e145
                  replace p145 := eq_true p145
                  replace q145 := eq_true q145
                  go_wp2
                  repeat (go_quiet (fail); try go_wp2)
                  go_ret
                  exact ⟨by first | rfl | (simp; done) | (simp [*]; done), by repeat (first | exact Drawn0.refl _ | apply Drawn0.step)⟩
              · rw [if_neg c7] at H
                exact absurd H (by simp)
            · rw [if_neg c6] at H
              exact absurd H (by simp)
          · rw [if_neg c5] at H
            exact absurd H (by simp)
        · rw [if_neg c4] at H
          have c4b0 : decide (x13_1 < (l0.length : Int)) = false := decide_eq_false c4
          clear c4
          obtain rfl := Option.some.inj H
          go_wp2
          repeat (go_quiet (fail); try go_wp2)
          go_ret
          exact ⟨by first | rfl | (simp; done) | (simp [*]; done), by repeat (first | exact Drawn0.refl _ | apply Drawn0.step)⟩
  · rw [if_neg c3] at H
    have c3b0 : ((l0.length : Int) == (l1.length : Int)) = false := beq_eq_false_iff_ne.mpr c3
    have c3b1 : ((l0.length : Int) != (l1.length : Int)) = true := bne_iff_ne.mpr c3
    have c3b2 : (l0.length == l1.length) = false := by first | simpa using c3 | (simp at c3 ⊢; omega)
    obtain rfl := Option.some.inj H
    go_enter Try.func34, Try.ntmps34
    go_wp2
    repeat (go_quiet (fail); try go_wp2)
    go_ret
    exact ⟨by first | rfl | (simp; done) | (simp [*]; done), by repeat (first | exact Drawn0.refl _ | apply Drawn0.step)⟩

end Go.Proofs.Ytgjgoeodhioeiaa.P
