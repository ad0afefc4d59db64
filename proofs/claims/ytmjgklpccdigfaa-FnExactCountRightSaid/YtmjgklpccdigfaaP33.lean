/- Written by a program of this session: for Go functions that a statement reaches, Lean functions with the same answers and the proofs that the calls come to them; conditions: none but the arguments' kinds. -/
import Derived.Test.YtmjgklpccdigfaaP0
import Derived.Test.YtmjgklpccdigfaaP31
import Derived.Test.YtmjgklpccdigfaaP32
namespace Go.Proofs.Ytmjgklpccdigfaa.P
open Go.RowKit Go.Proofs.YtmjgklpccdigfaaW.PrintWords Go.Proofs.YtmjgklpccdigfaaW.PrintLast Go.Proofs.YtmjgklpccdigfaaW.PrintMore
attribute [local go_sem] max2_int min2_int max_two min_two max_three min_three max_four min_four   -- for this text's walks alone
set_option linter.unusedVariables false
set_option linter.unusedSimpArgs false

/-! ### slices_SortFunc_int_int: function 73 -/
open Go.Shelf in
def laysSF_ren : Go.Shelf.Ren := ⟨fun | 6 => 73 | 15 => 92 | 14 => 91 | 28 => 104 | 29 => 105 | 20 => 96 | 21 => 97 | 22 => 98 | 23 => 99 | 24 => 100 | 25 => 101 | 26 => 102 | 27 => 103 | 46 => 107 | 47 => 108 | 48 => 109 | 49 => 110 | 50 => 111 | 57 => 112 | n => n, fun | 22 => 39 | 24 => 22 | 25 => 68 | 3 => 3 | 39 => 76 | 0 => 0 | 53 => 86 | 55 => 88 | 4 => 4 | 46 => 80 | 45 => 79 | 50 => 26 | 5 => 5 | 9 => 9 | 66 => 89 | 70 => 93 | 76 => 95 | 77 => 46 | n => n, fun | n => n⟩
theorem laysSF : Go.Proofs.SlLaysF.n6 Try.prog laysSF_ren := {
  mixed := by kernel_rfl
  f6 := ⟨Try.f73.name, by decide, Try.func73.trans (congrArg some (by kernel_rfl))⟩
  f14 := ⟨Try.f91.name, by decide, Try.func91.trans (congrArg some (by kernel_rfl))⟩
  f15 := Try.func92.trans (congrArg some (by kernel_rfl))
  f20 := ⟨Try.f96.name, by decide, Try.func96.trans (congrArg some (by kernel_rfl))⟩
  f21 := ⟨Try.f97.name, by decide, Try.func97.trans (congrArg some (by kernel_rfl))⟩
  f22 := ⟨Try.f98.name, by decide, Try.func98.trans (congrArg some (by kernel_rfl))⟩
  f23 := ⟨Try.f99.name, by decide, Try.func99.trans (congrArg some (by kernel_rfl))⟩
  f24 := ⟨Try.f100.name, by decide, Try.func100.trans (congrArg some (by kernel_rfl))⟩
  f25 := ⟨Try.f101.name, by decide, Try.func101.trans (congrArg some (by kernel_rfl))⟩
  f26 := ⟨Try.f102.name, by decide, Try.func102.trans (congrArg some (by kernel_rfl))⟩
  f27 := ⟨Try.f103.name, by decide, Try.func103.trans (congrArg some (by kernel_rfl))⟩
  f28 := Try.func104.trans (congrArg some (by kernel_rfl))
  f29 := Try.func105.trans (congrArg some (by kernel_rfl))
  f46 := ⟨Try.f107.name, by decide, Try.func107.trans (congrArg some (by kernel_rfl))⟩
  f47 := Try.func108.trans (congrArg some (by kernel_rfl))
  f48 := Try.func109.trans (congrArg some (by kernel_rfl))
  f49 := ⟨Try.f110.name, by decide, Try.func110.trans (congrArg some (by kernel_rfl))⟩
  f50 := ⟨Try.f111.name, by decide, Try.func111.trans (congrArg some (by kernel_rfl))⟩
  f57 := ⟨Try.f112.name, by decide, Try.func112.trans (congrArg some (by kernel_rfl))⟩
  t0 := Try.underlying0
  a0 := Try.isAgg0
  z0 := Try.sizeOf0
  v0 := Try.zeroValue0
  t3 := Try.underlying3
  a3 := Try.isAgg3
  z3 := Try.sizeOf3
  v3 := Try.zeroValue3
  t4 := Try.underlying4
  a4 := Try.isAgg4
  z4 := Try.sizeOf4
  v4 := Try.zeroValue4
  t5 := Try.underlying5
  a5 := Try.isAgg5
  z5 := Try.sizeOf5
  v5 := Try.zeroValue5
  t9 := Try.underlying9
  a9 := Try.isAgg9
  z9 := Try.sizeOf9
  v9 := Try.zeroValue9
  t22 := Try.underlying39
  a22 := Try.isAgg39
  z22 := Try.sizeOf39
  v22 := Try.zeroValue39
  a24 := Try.isAgg22
  z24 := Try.sizeOf22
  t25 := Try.underlying68
  a25 := Try.isAgg68
  z25 := Try.sizeOf68
  v25 := Try.zeroValue68
  t39 := Try.underlying76
  a39 := Try.isAgg76
  z39 := Try.sizeOf76
  v39 := Try.zeroValue76
  t45 := Try.underlying79
  a45 := Try.isAgg79
  z45 := Try.sizeOf79
  v45 := Try.zeroValue79
  t46 := Try.underlying80
  a46 := Try.isAgg80
  z46 := Try.sizeOf80
  v46 := Try.zeroValue80
  t50 := Try.underlying26
  a50 := Try.isAgg26
  z50 := Try.sizeOf26
  v50 := Try.zeroValue26
  t53 := Try.underlying86
  a53 := Try.isAgg86
  z53 := Try.sizeOf86
  v53 := Try.zeroValue86
  t55 := Try.underlying88
  a55 := Try.isAgg88
  z55 := Try.sizeOf88
  v55 := Try.zeroValue88
  t66 := Try.underlying89
  a66 := Try.isAgg89
  z66 := Try.sizeOf89
  v66 := Try.zeroValue89
  t70 := Try.underlying93
  a70 := Try.isAgg93
  z70 := Try.sizeOf93
  v70 := Try.zeroValue93
  t76 := Try.underlying95
  a76 := Try.isAgg95
  z76 := Try.sizeOf95
  v76 := Try.zeroValue95
  t77 := Try.underlying46
  a77 := Try.isAgg46
  z77 := Try.sizeOf46
  v77 := Try.zeroValue46 }

/-- Numbers compared. -/
def cmpI (a b : Int) : Int := if a < b then -1 else if b < a then 1 else 0
/-- Triples compared: by the greatest, then by the first. -/
def cmpT (x y : List Int) : Int := if cmpI (x.getD 2 0) (y.getD 2 0) = 0 then cmpI (x.getD 0 0) (y.getD 0 0) else cmpI (x.getD 2 0) (y.getD 2 0)
theorem cmpI_lt {a b : Int} : cmpI a b < 0 ↔ a < b := by
  unfold cmpI
  by_cases h : a < b
  · rw [if_pos h]
    exact ⟨fun _ => h, fun _ => by decide⟩
  · rw [if_neg h]
    by_cases h2 : b < a
    · rw [if_pos h2]
      exact ⟨fun e => absurd e (by decide), fun e => absurd e h⟩
    · rw [if_neg h2]
      exact ⟨fun e => absurd e (by decide), fun e => absurd e h⟩
theorem cmpI_eq {a b : Int} : cmpI a b = 0 ↔ a = b := by
  unfold cmpI
  constructor
  · intro h
    split at h
    · cases h
    · split at h
      · cases h
      · omega
  · rintro rfl
    simp
theorem cmpT_lt {x y : List Int} : cmpT x y < 0 ↔ (x.getD 2 0 < y.getD 2 0 ∨ x.getD 2 0 = y.getD 2 0 ∧ x.getD 0 0 < y.getD 0 0) := by
  unfold cmpT
  by_cases h : cmpI (x.getD 2 0) (y.getD 2 0) = 0
  · rw [if_pos h, cmpI_lt]
    have := cmpI_eq.1 h
    omega
  · rw [if_neg h, cmpI_lt]
    have : ¬ x.getD 2 0 = y.getD 2 0 := fun e => h (cmpI_eq.2 e)
    omega
theorem cmpT_eq {x y : List Int} : cmpT x y = 0 ↔ (x.getD 2 0 = y.getD 2 0 ∧ x.getD 0 0 = y.getD 0 0) := by
  unfold cmpT
  by_cases h : cmpI (x.getD 2 0) (y.getD 2 0) = 0
  · rw [if_pos h, cmpI_eq]
    have := cmpI_eq.1 h
    exact ⟨fun e => ⟨this, e⟩, fun e => e.2⟩
  · rw [if_neg h]
    exact ⟨fun e => absurd e h, fun e => absurd (cmpI_eq.2 e.1) h⟩
def leT (x y : List Int) : Bool := !decide (cmpT y x < 0)
def apartT : List (List Int) → Bool
  | [] => true
  | x :: t => t.all (fun y => decide (cmpT x y ≠ 0)) && apartT t
theorem apartT_pw : ∀ l : List (List Int), apartT l = true → l.Pairwise (fun x y => cmpT x y ≠ 0)
  | [], _ => List.Pairwise.nil
  | x :: t, h => by
    simp only [apartT, Bool.and_eq_true, List.all_eq_true, decide_eq_true_eq] at h
    exact List.pairwise_cons.2 ⟨h.1, apartT_pw t h.2⟩
theorem S_resort {e ei : Nat} {w W : World} {base g cap : Nat} {ok : Nat → Prop} {l0 : List (List Int)} {f : Nat → Nat} {inner : List Value} (d' : List (Fin l0.length)) (hnd : d'.Nodup) (hlen : d'.length = l0.length)
    (hk0 : ∀ k, (Value.slice (some ⟨g, 0, none⟩) l0.length cap).ownBlock = some k → ok k)
    (hrow : ∀ i : Fin l0.length, ∃ v, inner.getD i.1 (.bool false) = v ∧ (Kd.int .i64).R ei w base (fun k => (ok k ∧ k ≠ g) ∧ f k = i.1) v l0[i.1])
    (hkeep : ∀ k, k < w.heap.size → k ≠ g → W.heap[k]? = w.heap[k]?)
    (hown : W.ownsRow base e 1 (.slice (some ⟨g, 0, none⟩) l0.length cap) l0.length (d'.map fun i => inner.getD i.1 (.bool false))) :
    Kd.S (Kd.slice ei (Kd.int .i64)) e W base ok (.slice (some ⟨g, 0, none⟩) l0.length cap) (d'.map fun i => l0[i.1]) := by
  refine ⟨fun k => if h : f k < l0.length then d'.idxOf (⟨f k, h⟩ : Fin l0.length) else l0.length, hk0, d'.map fun i => inner.getD i.1 (.bool false), by (have hz : ((d'.map fun i => l0[i.1]).zipIdx).length = l0.length := by simp [hlen]); rw [hz]; exact hown, by simp [Kd.tag, Kd.slice], fun j p hj => ?_⟩
  have hj2 : j < d'.length := by
    have := (List.getElem?_eq_some_iff.1 hj).1
    simpa using this
  have hp : p = (l0[(d'[j]).1], j) := by
    rw [List.getElem?_zipIdx] at hj
    simp [List.getElem?_eq_getElem hj2] at hj
    exact hj.symm
  subst hp
  obtain ⟨v, hv, hr⟩ := hrow d'[j]
  refine ⟨v, ?_, ?_⟩
  · show ((d'.map fun i => inner.getD i.1 (.bool false)).drop (j * 1)).take 1 = [v]
    rw [Nat.mul_one, List.drop_eq_getElem_cons (by simpa using hj2)]
    simp only [List.getElem_map, hv]
    rfl
  · have h1 := Kd.R_step (w1 := W) hr (fun k hk hlt => hkeep k hlt hk.1.2)
    refine Kd.R_mono h1 (fun k hk => ⟨⟨hk.1.1, fun he => hk.1.2 (by simpa [Value.ownBlock] using he)⟩, ?_⟩)
    have hf : f k < l0.length := by rw [hk.2]; exact (d'[j]).2
    show (if h : f k < l0.length then d'.idxOf (⟨f k, h⟩ : Fin l0.length) else l0.length) = j
    rw [dif_pos hf]
    have : (⟨f k, hf⟩ : Fin l0.length) = d'[j] := Fin.ext hk.2
    rw [this]
    exact hnd.idxOf_getElem j hj2
theorem heap_sortedG {α : Type} [Inhabited α] (enc : α → Value) {w : World} {g n : Nat} {os : Array Obj} {cur : Array Value} {e : TypeId} {fr : Nat × Nat} (d : Array α) (hb : w.heap[g]? = some (.cells cur e fr)) :
    (Go.Sort.grow (Go.Sort.putRow enc (Go.Sort.ahead w n) g 0 d) os).heap[g]? = some (.cells (Go.Sort.putCells enc 0 d cur) e fr) := by
  have hg : g < w.heap.size := (Array.getElem?_eq_some_iff.1 hb).1
  rw [Go.Sort.heap_grow_old _ _ (by simpa using hg)]
  simp [Go.Sort.putRow, Go.Sort.mapBlock, Go.Sort.ahead, Array.getElem?_modify, hb, Go.Sort.onCells]
theorem take_putCellsG {α : Type} [Inhabited α] (enc : α → Value) (cur : Array Value) (ts : List α) (h : ts.length ≤ cur.size) : (Go.Sort.putCells enc 0 ts.toArray cur).toList.take ts.length = ts.map enc := by
  apply List.ext_getElem?
  intro j
  by_cases hj : j < ts.length
  · rw [List.getElem?_take_of_lt hj, Array.getElem?_toList]
    simp [Go.Sort.putCells, hj, show j < cur.size by omega]
  · rw [List.getElem?_take_eq_none (by omega), List.getElem?_eq_none (by simp; omega)]
theorem ownsRow_sortedG {α : Type} [Inhabited α] (enc : α → Value) {w : World} {base g cap n N : Nat} {e : TypeId} {os : Array Obj} {cur : Array Value} {ts : List α} (hl : ts.length = N) (hbase : base ≤ g) (hb : w.heap[g]? = some (.cells cur e (0, 0)))
    (h1 : N ≤ cap) (h2 : cap ≤ maxLen) (h3 : cur.size = cap * 1) :
    (Go.Sort.grow (Go.Sort.putRow enc (Go.Sort.ahead w n) g 0 ts.toArray) os).ownsRow base e 1 (.slice (some ⟨g, 0, none⟩) N cap) N (ts.map enc) :=
  ⟨by simp [hl], .inr ⟨g, cap, _, rfl, hbase, heap_sortedG enc _ hb, h1, h2, by simp [Go.Sort.putCells, h3], by rw [Nat.mul_one, ← hl]; exact take_putCellsG enc cur ts (by omega)⟩⟩
theorem sortHeap {α : Type} [Inhabited α] (enc : α → Value) (w : World) (g m : Nat) (d : Array α) (os : Array Obj) (k : Nat) (hk : k < w.heap.size) (hne : k ≠ g) : (Go.Sort.grow (Go.Sort.putRow enc (Go.Sort.ahead w m) g 0 d) os).heap[k]? = w.heap[k]? := by
  rw [Go.Sort.heap_grow_old _ _ (by simpa using hk)]
  simp [Go.Sort.putRow, Go.Sort.mapBlock, Go.Sort.ahead, Array.getElem?_modify, Ne.symm hne]

theorem gro_of {w W : World} (hb : Below w.heap.size w W) (hd : w.drawn ≤ W.drawn) : ∃ q os', W = Go.Sort.grow (w.drewN q) os' := by
  obtain ⟨heap, tape, drawn, os, output⟩ := w
  obtain ⟨heap', tape', drawn', os', output'⟩ := W
  obtain ⟨h1, h2, h3, h4, h5⟩ := hb
  simp only at h1 h2 h3 h4 h5 hd
  subst h1 h2 h3
  refine ⟨drawn' - drawn, heap'.extract heap.size heap'.size, ?_⟩
  simp only [Go.Sort.grow, World.drewN]
  have e1 : drawn + (drawn' - drawn) = drawn' := by omega
  have e2 : heap ++ heap'.extract heap.size heap'.size = heap' := by
    apply Array.ext_getElem?
    intro k
    by_cases hk : k < heap.size
    · rw [Array.getElem?_append_left hk, h5 k hk]
    · rw [Array.getElem?_append_right (by omega), Array.getElem?_extract]
      by_cases hk2 : k < heap'.size
      · rw [if_pos (by omega)]
        congr 1
        omega
      · rw [if_neg (by omega)]
        exact (Array.getElem?_eq_none (by omega)).symm
  rw [e1, e2]
open Kd in
section
variable {α : Type} {P : Program} {ops : Array Oper} {Kc : Act → World → Prop} {Q : Exit → Act → World → Prop} {o : Oper} {a : Act}
theorem R_lit_stepD (d : Kd α) {w0 W : World} (base e : Nat) (hw : Region.wanted o (yielded ops a.tmps) = true) {N : Tmp} (_hd : o.dst = some N) {xs : List α} {inner : List Value} {ok okp : Nat → Prop}
    (hrun : (execOp a.eval o).run P W = .ok (.value (.slice (some ⟨W.heap.size, 0, none⟩) xs.length xs.length)) (W.alloc (.cells inner.toArray e)))
    (hrep : Reps (d.M W base okp) d.sz xs inner) (hok : ∀ k, okp k → ok k) (hfresh : ok W.heap.size) (HB : Below base w0 W) (hbase : base ≤ W.heap.size) (hm : xs.length ≤ 9223372036854775807)
    (h : ∀ v1 w1, d.R e w1 base ok v1 xs → Below base w0 w1 → W.grownBy w1 none → (∃ b, v1.ownBlock = some b ∧ W.heap.size ≤ b) → w1.drawn = W.drawn → Kc (a.put o.dst v1) w1) : if Region.wanted o (yielded ops a.tmps) = true then Oper.wp P o a W Kc Q else Kc (a.put o.dst undef) W := by
  refine event_step hw hrun (h _ _ ⟨fun k hk => ?_, inner, ?_, ?_⟩ (HB.alloc hbase _) (World.grownBy_alloc W _ none) ⟨W.heap.size, by simp [Value.ownBlock], Nat.le_refl _⟩ rfl)
  · have : W.heap.size = k := by simpa [Value.ownBlock] using hk
    subst this
    exact hfresh
  · have h2 := World.ownsRow_lit (base := base) (e := e) (size := d.sz) W inner.toArray xs.length hbase (by simpa [maxLen] using hm) (by simpa using hrep.1)
    simpa using h2
  · refine hrep.imp_ (fun p c hp => d.M_mono (fun k hk => ⟨hok k hk.1, fun he => ?_⟩) (M_below (d.M_bound hp) (below_alloc (Below.refl _ _) _)))
    have h3 : k = W.heap.size := by simpa [Value.ownBlock] using he
    have := hk.2.2.1
    omega
end
set_option maxHeartbeats 8000000 in
set_option maxRecDepth 100000 in
theorem rightCmp.calls0 (k : Nat) (A0 : Option Addr) (c0 : Nat) (l0 : List Int) (A1 : Option Addr) (c1 : Nat) (l1 : List Int) (r : Int) (w : World) (hr0 : Kd.C (Kd.int .i64) w A0 l0.length l0) (hc0 : l0.length ≤ c0) (hr1 : Kd.C (Kd.int .i64) w A1 l1.length l1) (hc1 : l1.length ≤ c1) (h : impl_RightUpTo_1.f k l0 l1 = some r) :
    Calls Try.prog 74 #[.slice A0 l0.length c0, .slice A1 l1.length c1] w fun e w' => e = .returned (.int .i64 r) ∧ ∃ q os', w' = Go.Sort.grow (w.drewN q) os' := by
  have HR0 := Aside0.mk hr0
  have HC0 := Aside0.mk hc0
  clear hr0 hc0
  have HR1 := Aside0.mk hr1
  have HC1 := Aside0.mk hc1
  clear hr1 hc1
  have HB := Aside0.mk (Below.refl w.heap.size w)
  have H : (if 2 < (l0.length : Int) then (if 2 < (l1.length : Int) then ((cmp_Compare_int.f (rd l0 2) (rd l1 2)).bind fun t671 => (if 0 < (l0.length : Int) then (if 0 < (l1.length : Int) then ((cmp_Compare_int.f (rd l0 0) (rd l1 0)).bind fun t674 => ((cmp_Or_int.f k (([t671, t674] : List Int))).bind fun t678 => (some t678))) else (none)) else (none))) else (none)) else (none)) = some r := h
  clear h
  by_cases c3 : 2 < (l0.length : Int)
  · rw [if_pos c3] at H
    have c3b0 : decide (2 < (l0.length : Int)) = true := decide_eq_true c3
    have c3b1 : decide (2 < l0.length) = true := decide_eq_true (by omega)
    clear c3
    by_cases c4 : 2 < (l1.length : Int)
    · rw [if_pos c4] at H
      have c4b0 : decide (2 < (l1.length : Int)) = true := decide_eq_true c4
      have c4b1 : decide (2 < l1.length) = true := decide_eq_true (by omega)
      clear c4
      replace H := Option.bind_eq_some_iff.mp H
      obtain ⟨t671, A50, H⟩ := H
      replace H : (if 0 < (l0.length : Int) then (if 0 < (l1.length : Int) then ((cmp_Compare_int.f (rd l0 0) (rd l1 0)).bind fun t674 => ((cmp_Or_int.f k (([t671, t674] : List Int))).bind fun t678 => (some t678))) else (none)) else (none)) = some r := H
      have A5 := Aside0.mk A50
      clear A50
      by_cases c6 : 0 < (l0.length : Int)
      · rw [if_pos c6] at H
        have c6b0 : decide (0 < (l0.length : Int)) = true := decide_eq_true c6
        have c6b1 : decide (0 < l0.length) = true := decide_eq_true (by omega)
        clear c6
        by_cases c7 : 0 < (l1.length : Int)
        · rw [if_pos c7] at H
          have c7b0 : decide (0 < (l1.length : Int)) = true := decide_eq_true c7
          have c7b1 : decide (0 < l1.length) = true := decide_eq_true (by omega)
          clear c7
          replace H := Option.bind_eq_some_iff.mp H
          obtain ⟨t674, A80, H⟩ := H
          replace H : ((cmp_Or_int.f k (([t671, t674] : List Int))).bind fun t678 => (some t678)) = some r := H
          have A8 := Aside0.mk A80
          clear A80
          obtain ⟨y675, hy675⟩ : ∃ y_ : List Int, y_ = (([t671, t674] : List Int)) := ⟨_, rfl⟩
          replace H : ((cmp_Or_int.f k y675).bind fun t678 => (some t678)) = some r := by first | (rw [hy675]; with_reducible exact H) | (have H2_ := (Option.bind_some _ _).symm.trans H; rw [hy675]; with_reducible exact H2_) | (have H2_ := (Option.bind_some _ _).symm.trans H; with_reducible exact H2_) | with_reducible exact H | (rw [hy675]; exact H) | exact H
          have Ny675 := Aside0.mk hy675
          clear hy675
          replace H := Option.bind_eq_some_iff.mp H
          obtain ⟨t678, A90, H⟩ := H
          replace H : (some t678) = some r := H
          have A9 := Aside0.mk A90
          clear A90
          obtain rfl := Option.some.inj H
          go_enter Try.func74, Try.ntmps74
          try go_wp2
          have n0_ := Aside0.mk (below_drew1 HB.out)
          clear HB
          have HB := n0_
          clear n0_
          have p669 : 0 ≤ (2 : Int) := (by omega)
          have q669 : 2 < (l0.length : Int) := of_decide_eq_true (by first | (with_reducible assumption) | assumption)
          obtain ⟨ad669, e669, hx669_0⟩ := Kd.at_int HR0.out 2 p669 q669
          have hw669_0 := hx669_0
          (try rw [show ((2 : Int)).toNat = 2 from rfl] at hw669_0)
          (try rw [show 2 * 1 = 2 from rfl] at hw669_0)
          (try simp only [Nat.reduceMul, Nat.reduceEqDiff, Go.Addr.add, ↓reduceIte] at hw669_0)
          cases e669
          (try simp only [show (2 : Int).toNat = 2 from rfl, Nat.reduceMul, Nat.reduceEqDiff, Go.Addr.add, ↓reduceIte] at hx669_0)
          have qi669 : (2 < l0.length) = True := eq_true (by omega)
          (try rw [show ((2 : Int)).toNat = 2 from rfl] at hx669_0)
          replace hx669_0 := (HB.out.cell (World.block_lt_of_cell? w _ hx669_0)).trans hx669_0
          replace p669 := eq_true p669
          replace q669 := eq_true q669
          have p670 : 0 ≤ (2 : Int) := (by omega)
          have q670 : 2 < (l1.length : Int) := of_decide_eq_true (by first | (with_reducible assumption) | assumption)
          obtain ⟨ad670, e670, hx670_0⟩ := Kd.at_int HR1.out 2 p670 q670
          have hw670_0 := hx670_0
          (try rw [show ((2 : Int)).toNat = 2 from rfl] at hw670_0)
          (try rw [show 2 * 1 = 2 from rfl] at hw670_0)
          (try simp only [Nat.reduceMul, Nat.reduceEqDiff, Go.Addr.add, ↓reduceIte] at hw670_0)
          cases e670
          (try simp only [show (2 : Int).toNat = 2 from rfl, Nat.reduceMul, Nat.reduceEqDiff, Go.Addr.add, ↓reduceIte] at hx670_0)
          have qi670 : (2 < l1.length) = True := eq_true (by omega)
          (try rw [show ((2 : Int)).toNat = 2 from rfl] at hx670_0)
          replace hx670_0 := (HB.out.cell (World.block_lt_of_cell? w _ hx670_0)).trans hx670_0
          replace p670 := eq_true p670
          replace q670 := eq_true q670
          have p672 : 0 ≤ (0 : Int) := (by omega)
          have q672 : 0 < (l0.length : Int) := of_decide_eq_true (by first | (with_reducible assumption) | assumption)
          obtain ⟨ad672, e672, hx672_0⟩ := Kd.at_int HR0.out 0 p672 q672
          have hw672_0 := hx672_0
          (try rw [show ((0 : Int)).toNat = 0 from rfl] at hw672_0)
          (try rw [show 0 * 1 = 0 from rfl] at hw672_0)
          (try rw [Addr.add_zero'] at hw672_0)
          obtain rfl : ad669 = ad672 := (by injection e672)
          have qi672 : (0 < l0.length) = True := eq_true (by omega)
          (try rw [show ((0 : Int)).toNat = 0 from rfl] at hx672_0)
          (try rw [Addr.add_zero'] at hx672_0)
          replace hx672_0 := (HB.out.cell (World.block_lt_of_cell? w _ hx672_0)).trans hx672_0
          replace p672 := eq_true p672
          replace q672 := eq_true q672
          have p673 : 0 ≤ (0 : Int) := (by omega)
          have q673 : 0 < (l1.length : Int) := of_decide_eq_true (by first | (with_reducible assumption) | assumption)
          obtain ⟨ad673, e673, hx673_0⟩ := Kd.at_int HR1.out 0 p673 q673
          have hw673_0 := hx673_0
          (try rw [show ((0 : Int)).toNat = 0 from rfl] at hw673_0)
          (try rw [show 0 * 1 = 0 from rfl] at hw673_0)
          (try rw [Addr.add_zero'] at hw673_0)
          obtain rfl : ad670 = ad673 := (by injection e673)
          have qi673 : (0 < l1.length) = True := eq_true (by omega)
          (try rw [show ((0 : Int)).toNat = 0 from rfl] at hx673_0)
          (try rw [Addr.add_zero'] at hx673_0)
          replace hx673_0 := (HB.out.cell (World.block_lt_of_cell? w _ hx673_0)).trans hx673_0
          replace p673 := eq_true p673
          replace q673 := eq_true q673
          refine start_ (n := 17) (S := fun w' => w'.cell? ⟨ad669.block, ad669.off + 2, none⟩ = some (.int .i64 (rd l0 2)) ∧ w'.cell? ⟨ad670.block, ad670.off + 2, none⟩ = some (.int .i64 (rd l1 2)) ∧ w'.cell? ad669 = some (.int .i64 (rd l0 0)) ∧ w'.cell? ad670 = some (.int .i64 (rd l1 0))) (ds := []) #[false, false, false, false, false, false, false, false, false, false, false, false, false, false, false, false, false] (by kernel_rfl) rfl rfl ⟨((HB.out.cell (World.block_lt_of_cell? w _ hw669_0)).trans hw669_0), ((HB.out.cell (World.block_lt_of_cell? w _ hw670_0)).trans hw670_0), ((HB.out.cell (World.block_lt_of_cell? w _ hw672_0)).trans hw672_0), ((HB.out.cell (World.block_lt_of_cell? w _ hw673_0)).trans hw673_0)⟩ (fun hHeld => ?_); refine with_tabW impl_RightUpTo_1.tab1 impl_RightUpTo_1.bits1 (fun HT_ HW_ => ?_)
          have HD := Aside0.mk (show w.drawn ≤ w.drew.drawn from Nat.le_succ _)
          generalize w.drew = w10 at HB HD hx669_0 hx670_0 hx672_0 hx673_0 hHeld ⊢
          refine pure_ (i := 0) (N := some 5) (v := ?_) (a' := ?_) #[true, false, false, false, false, false, false, false, false, false, false, false, false, false, false, false, false] rfl rfl (any_of HT_.out (by kernel_rfl)) (fun _ _ _ h => h) (Or.inl ⟨by rfl, ?_⟩) ?_ ?_
          rotate_left
          · intro w'
            go_simp
            with_reducible rfl
          rotate_left
          · simp only [Act.put, List.setIfInBounds_toArray, List.set_cons_zero, List.set_cons_succ, i64_w, i32_w]
            rfl
          refine pure_ (i := 1) (N := some 6) (v := ?_) (a' := ?_) #[true, true, false, false, false, false, false, false, false, false, false, false, false, false, false, false, false] rfl rfl (any_of HT_.out (by kernel_rfl)) (fun _ _ _ h => h) (Or.inl ⟨by rfl, ?_⟩) ?_ ?_
          rotate_left
          · intro w'
            go_simp
            with_reducible rfl
          rotate_left
          · simp only [Act.put, List.setIfInBounds_toArray, List.set_cons_zero, List.set_cons_succ, i64_w, i32_w]
            rfl
          refine pure_ (i := 3) (N := some 8) (v := ?_) (a' := ?_) #[true, true, false, true, false, false, false, false, false, false, false, false, false, false, false, false, false] rfl rfl (any_of HT_.out (by kernel_rfl)) (fun _ _ _ h => h) (Or.inl ⟨by rfl, ?_⟩) ?_ ?_
          rotate_left
          · intro w'
            go_simp
            with_reducible rfl
          rotate_left
          · simp only [Act.put, List.setIfInBounds_toArray, List.set_cons_zero, List.set_cons_succ, i64_w, i32_w]
            rfl
          refine pure_ (i := 4) (N := some 9) (v := ?_) (a' := ?_) #[true, true, false, true, true, false, false, false, false, false, false, false, false, false, false, false, false] rfl rfl (any_of HT_.out (by kernel_rfl)) (fun _ _ _ h => h) (Or.inl ⟨by rfl, ?_⟩) ?_ ?_
          rotate_left
          · intro w'
            go_simp
            with_reducible rfl
          rotate_left
          · simp only [Act.put, List.setIfInBounds_toArray, List.set_cons_zero, List.set_cons_succ, i64_w, i32_w]
            rfl
          refine pure_ (i := 7) (N := some 12) (v := ?_) (a' := ?_) #[true, true, false, true, true, false, false, true, false, false, false, false, false, false, false, false, false] rfl rfl (any_of HT_.out (by kernel_rfl)) (fun _ _ _ h => h) (Or.inl ⟨by rfl, ?_⟩) ?_ ?_
          rotate_left
          · intro w'
            go_simp
            with_reducible rfl
          rotate_left
          · simp only [Act.put, List.setIfInBounds_toArray, List.set_cons_zero, List.set_cons_succ, i64_w, i32_w]
            rfl
          refine pure_ (i := 8) (N := some 13) (v := ?_) (a' := ?_) #[true, true, false, true, true, false, false, true, true, false, false, false, false, false, false, false, false] rfl rfl (any_of HT_.out (by kernel_rfl)) (fun _ _ _ h => h) (Or.inl ⟨by rfl, ?_⟩) ?_ ?_
          rotate_left
          · intro w'
            go_simp
            with_reducible rfl
          rotate_left
          · simp only [Act.put, List.setIfInBounds_toArray, List.set_cons_zero, List.set_cons_succ, i64_w, i32_w]
            rfl
          refine pure_ (i := 10) (N := some 15) (v := ?_) (a' := ?_) #[true, true, false, true, true, false, false, true, true, false, true, false, false, false, false, false, false] rfl rfl (any_of HT_.out (by kernel_rfl)) (fun _ _ _ h => h) (Or.inl ⟨by rfl, ?_⟩) ?_ ?_
          rotate_left
          · intro w'
            go_simp
            with_reducible rfl
          rotate_left
          · simp only [Act.put, List.setIfInBounds_toArray, List.set_cons_zero, List.set_cons_succ, i64_w, i32_w]
            rfl
          refine pure_ (i := 11) (N := some 16) (v := ?_) (a' := ?_) #[true, true, false, true, true, false, false, true, true, false, true, true, false, false, false, false, false] rfl rfl (any_of HT_.out (by kernel_rfl)) (fun _ _ _ h => h) (Or.inl ⟨by rfl, ?_⟩) ?_ ?_
          rotate_left
          · intro w'
            go_simp
            with_reducible rfl
          rotate_left
          · simp only [Act.put, List.setIfInBounds_toArray, List.set_cons_zero, List.set_cons_succ, i64_w, i32_w]
            rfl
          refine take_ (i := 2) (N := some 7) (v := ?_) (a' := ?_) #[true, true, true, true, true, false, false, true, true, false, true, true, false, false, false, false, false] rfl rfl (take_ofW HT_.out HW_.out (by kernel_rfl)) (fun _ _ _ h => h) (Or.inl ⟨by rfl, ?_⟩) hHeld ?_ ?_
          rotate_left
          · rintro w' ⟨s0, s1, s2, s3⟩
            go_simp
            with_reducible rfl
          rotate_left
          · simp only [Act.put, List.setIfInBounds_toArray, List.set_cons_zero, List.set_cons_succ, i64_w, i32_w]
            rfl
          refine take_ (i := 5) (N := some 10) (v := ?_) (a' := ?_) #[true, true, true, true, true, true, false, true, true, false, true, true, false, false, false, false, false] rfl rfl (take_ofW HT_.out HW_.out (by kernel_rfl)) (fun _ _ _ h => h) (Or.inl ⟨by rfl, ?_⟩) hHeld ?_ ?_
          rotate_left
          · rintro w' ⟨s0, s1, s2, s3⟩
            go_simp
            with_reducible rfl
          rotate_left
          · simp only [Act.put, List.setIfInBounds_toArray, List.set_cons_zero, List.set_cons_succ, i64_w, i32_w]
            rfl
          refine take_ (i := 9) (N := some 14) (v := ?_) (a' := ?_) #[true, true, true, true, true, true, false, true, true, true, true, true, false, false, false, false, false] rfl rfl (take_ofW HT_.out HW_.out (by kernel_rfl)) (fun _ _ _ h => h) (Or.inl ⟨by rfl, ?_⟩) hHeld ?_ ?_
          rotate_left
          · rintro w' ⟨s0, s1, s2, s3⟩
            go_simp
            with_reducible rfl
          rotate_left
          · simp only [Act.put, List.setIfInBounds_toArray, List.set_cons_zero, List.set_cons_succ, i64_w, i32_w]
            rfl
          refine take_ (i := 12) (N := some 17) (v := ?_) (a' := ?_) #[true, true, true, true, true, true, false, true, true, true, true, true, true, false, false, false, false] rfl rfl (take_ofW HT_.out HW_.out (by kernel_rfl)) (fun _ _ _ h => h) (Or.inl ⟨by rfl, ?_⟩) hHeld ?_ ?_
          rotate_left
          · rintro w' ⟨s0, s1, s2, s3⟩
            go_simp
            with_reducible rfl
          rotate_left
          · simp only [Act.put, List.setIfInBounds_toArray, List.set_cons_zero, List.set_cons_succ, i64_w, i32_w]
            rfl
          refine one_ (i := 6) (N := some 11) #[true, true, true, true, true, true, true, true, true, true, true, true, true, false, false, false, false] rfl rfl (one_of HT_.out (by kernel_rfl)) (by decide) (fun K hK => ?_)
          refine goes_ Try.func76 (by kernel_rfl) rfl #[.int .i64 (rd l0 2), .int .i64 (rd l1 2)] (by rfl) rfl rfl (by (try simp only [List.map_toArray, List.map_cons, List.map_nil]); first | done | rfl | (simp only [List.length_drop, List.length_take]; rfl)) ?_
          with_reducible refine (cmp_Compare_int.calls (rd l0 2) (rd l1 2) t671 _ A5.out).mono ?_
          rintro e w' ⟨rfl, ⟨nd, rfl⟩⟩
          refine ⟨_, rfl, ?_⟩
          refine hK.out _ _ ⟨((HB.out.cell (World.block_lt_of_cell? w _ hw669_0)).trans hw669_0), ((HB.out.cell (World.block_lt_of_cell? w _ hw670_0)).trans hw670_0), ((HB.out.cell (World.block_lt_of_cell? w _ hw672_0)).trans hw672_0), ((HB.out.cell (World.block_lt_of_cell? w _ hw673_0)).trans hw673_0)⟩ (fun hHeld => ?_)
          clear hK K
          refine norm_ (a' := ?_) ?_ ?_
          rotate_left
          · show Act.put _ (some 11) _ = _
            simp only [Act.put, List.setIfInBounds_toArray, List.set_cons_zero, List.set_cons_succ, i64_w, i32_w]
            rfl
          refine one_ (i := 13) (N := some 18) #[true, true, true, true, true, true, true, true, true, true, true, true, true, true, false, false, false] rfl rfl (one_of HT_.out (by kernel_rfl)) (by decide) (fun K hK => ?_)
          refine goes_ Try.func76 (by kernel_rfl) rfl #[.int .i64 (rd l0 0), .int .i64 (rd l1 0)] (by rfl) rfl rfl (by (try simp only [List.map_toArray, List.map_cons, List.map_nil]); first | done | rfl | (simp only [List.length_drop, List.length_take]; rfl)) ?_
          with_reducible refine (cmp_Compare_int.calls (rd l0 0) (rd l1 0) t674 _ A8.out).mono ?_
          rintro e w' ⟨rfl, ⟨nd, rfl⟩⟩
          refine ⟨_, rfl, ?_⟩
          refine hK.out _ _ ⟨((HB.out.cell (World.block_lt_of_cell? w _ hw669_0)).trans hw669_0), ((HB.out.cell (World.block_lt_of_cell? w _ hw670_0)).trans hw670_0), ((HB.out.cell (World.block_lt_of_cell? w _ hw672_0)).trans hw672_0), ((HB.out.cell (World.block_lt_of_cell? w _ hw673_0)).trans hw673_0)⟩ (fun hHeld => ?_)
          clear hK K
          refine norm_ (a' := ?_) ?_ ?_
          rotate_left
          · show Act.put _ (some 18) _ = _
            simp only [Act.put, List.setIfInBounds_toArray, List.set_cons_zero, List.set_cons_succ, i64_w, i32_w]
            rfl
          refine one_ (i := 14) (N := some 19) #[true, true, true, true, true, true, true, true, true, true, true, true, true, true, true, false, false] rfl rfl (one_of HT_.out (by kernel_rfl)) (by decide) (fun K hK => ?_)
          refine R_lit_stepD (Kd.int .i64) _ 3 ?hg (N := 19) ?hd (xs := ([t671, t674] : List Int)) (inner := [.int .i64 t671, .int .i64 t674]) (ok := fun _ => True) (okp := fun _ => True) ?hr ?hp (fun _ hk => hk) trivial (Below.refl _ _) (Nat.le_refl _) (by simp) ?_; (case hd => rfl); (case hg => rfl); (case hr => first | (go_simp; done) | (go_simp; rfl)); (case hp => exact (Reps.one (show Kd.M (Kd.int .i64) _ _ _ t671 [.int .i64 t671] from rfl) (Reps.one (show Kd.M (Kd.int .i64) _ _ _ t674 [.int .i64 t674] from rfl) (Reps.none _ _))))
          intro v676 w11 ho12 hb hg_ hnew_ hdr_
          have HDL := Aside0.mk hdr_
          clear hdr_
          clear hg_ hnew_
          (first | rw [← Ny675.out] at ho12 | (simp only [Int.reduceToNat] at ho12; rw [← Ny675.out] at ho12))
          have n0_ := Aside0.mk (Kd.R_lower ho12 (below_size (by repeat (first | (with_reducible first | exact HB.out | apply below_alloc | apply pw_below_drewN | apply below_drew1) | exact HB.out))))
          have n1_ := Aside0.mk (below_step (by repeat (first | (with_reducible first | exact HB.out | apply below_alloc | apply pw_below_drewN | apply below_drew1) | exact HB.out)) hb)
          clear HB
          have HO677 := n0_
          have HB := n1_
          clear n0_ n1_
          clear hb ho12
          obtain ⟨Ao13, co13, eo13⟩ := Kd.R_slice HO677.out
          (first | subst eo13 | (injection eo13 with f1_ f2_ f3_; have f4_ := f1_.symm; have f5_ := f3_.symm; clear f1_ f2_ f3_; subst f4_; subst f5_))
          refine hK.out _ _ ⟨((HB.out.cell (World.block_lt_of_cell? w _ hw669_0)).trans hw669_0), ((HB.out.cell (World.block_lt_of_cell? w _ hw670_0)).trans hw670_0), ((HB.out.cell (World.block_lt_of_cell? w _ hw672_0)).trans hw672_0), ((HB.out.cell (World.block_lt_of_cell? w _ hw673_0)).trans hw673_0)⟩ (fun hHeld => ?_)
          clear hK K
          refine norm_ (a' := ?_) ?_ ?_
          rotate_left
          · show Act.put _ (some 19) _ = _
            simp only [Act.put, List.setIfInBounds_toArray, List.set_cons_zero, List.set_cons_succ, i64_w, i32_w]
            rfl
          refine one_ (i := 15) (N := some 20) #[true, true, true, true, true, true, true, true, true, true, true, true, true, true, true, true, false] rfl rfl (one_of HT_.out (by kernel_rfl)) (by decide) (fun K hK => ?_)
          refine goes_ Try.func75 (by kernel_rfl) rfl #[.slice Ao13 y675.length co13] (by rfl) rfl rfl (by (try simp only [List.map_toArray, List.map_cons, List.map_nil]); first | done | rfl | (simp only [List.length_drop, List.length_take]; rfl)) ?_
          with_reducible refine (cmp_Or_int.calls k _ _ y675 t678 _ ?side1 ?side2 A9.out).mono ?_
          (case side1 => repeat (first | exact (Kd.R_reads' HO677.out).2.2 | (with_reducible refine Kd.C_alloc ?_ _) | (with_reducible refine Kd.C_drewN ?_ _) | (with_reducible refine Kd.C_drew ?_)))
          (case side2 => exact (Kd.R_reads' HO677.out).2.1)
          rintro e w' ⟨rfl, ⟨nd, rfl⟩⟩
          refine ⟨_, rfl, ?_⟩
          refine hK.out _ _ ⟨((HB.out.cell (World.block_lt_of_cell? w _ hw669_0)).trans hw669_0), ((HB.out.cell (World.block_lt_of_cell? w _ hw670_0)).trans hw670_0), ((HB.out.cell (World.block_lt_of_cell? w _ hw672_0)).trans hw672_0), ((HB.out.cell (World.block_lt_of_cell? w _ hw673_0)).trans hw673_0)⟩ (fun hHeld => ?_)
          clear hK K
          refine norm_ (a' := ?_) ?_ ?_
          rotate_left
          · show Act.put _ (some 20) _ = _
            simp only [Act.put, List.setIfInBounds_toArray, List.set_cons_zero, List.set_cons_succ, i64_w, i32_w]
            rfl
          refine pure_ (i := 16) (N := some 4) (v := ?_) (a' := ?_) #[true, true, true, true, true, true, true, true, true, true, true, true, true, true, true, true, true] rfl rfl (any_of HT_.out (by kernel_rfl)) (fun _ _ _ h => h) (Or.inl ⟨by rfl, ?_⟩) ?_ ?_
          rotate_left
          · intro w'
            go_simp
            with_reducible rfl
          rotate_left
          · simp only [Act.put, List.setIfInBounds_toArray, List.set_cons_zero, List.set_cons_succ, i64_w, i32_w]
            rfl
          refine done_ (done_of HT_.out (by kernel_rfl)) ?_
          try go_wp2
          go_ret
          exact ⟨by first | rfl | (simp [errW_none, errW_some] <;> rfl) | (simp [*, errW_none, errW_some] <;> rfl), gro_of (by repeat (first | (with_reducible first | exact HB.out | apply below_alloc | apply pw_below_drewN | apply below_drew1) | exact HB.out)) (by have h1 := HD.out; have h2 := HDL.out; simp only [World.drewN] at h2 ⊢; omega)⟩
        · rw [if_neg c7] at H
          exact absurd H (by simp)
      · rw [if_neg c6] at H
        exact absurd H (by simp)
    · rw [if_neg c4] at H
      exact absurd H (by simp)
  · rw [if_neg c3] at H
    exact absurd H (by simp)
theorem cmpC_f (a b : Int) : cmp_Compare_int.f a b = some (cmpI a b) := by
  unfold cmp_Compare_int.f cmp_isNaN_int.f cmpI
  simp only [bne_self_eq_false, Option.bind_some, Bool.false_eq_true, if_false, gt_iff_lt]
  split
  · rfl
  · split <;> rfl
theorem cmpOr_f (a b : Int) : cmp_Or_int.f 4 [a, b] = some (if a = 0 then b else a) := by
  by_cases ha : a = 0
  · subst ha
    by_cases hb : b = 0
    · subst hb; simp [cmp_Or_int.f, cmp_Or_int.l0, rd, wrap64]
    · simp [cmp_Or_int.f, cmp_Or_int.l0, rd, wrap64, hb]
  · simp [cmp_Or_int.f, cmp_Or_int.l0, rd, wrap64, ha]
theorem rightCmp.calls (A0 : Option Addr) (c0 : Nat) (l0 : List Int) (A1 : Option Addr) (c1 : Nat) (l1 : List Int) (w : World) (h3 : l0.length = 3) (h4 : l1.length = 3) (hr0 : Kd.C (Kd.int .i64) w A0 l0.length l0) (hr1 : Kd.C (Kd.int .i64) w A1 l1.length l1) (hc0 : l0.length ≤ c0) (hc1 : l1.length ≤ c1) :
    Calls Try.prog 74 #[.slice A0 l0.length c0, .slice A1 l1.length c1] w fun e w' => e = .returned (.int .i64 (cmpT l0 l1)) ∧ ∃ q os', w' = Go.Sort.grow (w.drewN q) os' := by
  refine rightCmp.calls0 4 A0 c0 l0 A1 c1 l1 _ w hr0 hc0 hr1 hc1 ?_
  unfold impl_RightUpTo_1.f
  rw [if_pos (by omega), if_pos (by omega), cmpC_f]
  simp only [Option.bind_some]
  rw [if_pos (by omega), if_pos (by omega), cmpC_f]
  simp only [Option.bind_some, cmpOr_f, cmpT, rd]
  rfl

def slices_SortFunc_int_int.f (l0 : List (List Int)) : Option (List (List Int)) := if (decide (l0.length < 4611686018427387904) && l0.all (fun x => decide (x.length = 3)) && apartT l0) = true then some (l0.mergeSort leT) else none
set_option maxHeartbeats 8000000 in
set_option maxRecDepth 100000 in
theorem slices_SortFunc_int_int.calls (P0_ : Nat → Prop) (u9000_ : Value) (l0 r : List (List Int)) (w0 w : World) (hB : Below w0.heap.size w0 w) (ho0 : Kd.S (Kd.slice 3 (Kd.int .i64)) 22 w w0.heap.size P0_ u9000_ l0) (h : slices_SortFunc_int_int.f l0 = some r) :
    Calls Try.prog 73 #[u9000_, .func (.func 74) #[] #[]] w fun e w' => e = .returned (.tuple #[]) ∧ Kd.S (Kd.slice 3 (Kd.int .i64)) 22 w' w0.heap.size (fun k_ => (P0_ k_ ∨ w.heap.size ≤ k_)) u9000_ r ∧ Below w0.heap.size w0 w' ∧ Kept w w' (fun k_ => P0_ k_) := by
  have hl : (l0.length < 4611686018427387904 ∧ (∀ x ∈ l0, x.length = 3) ∧ apartT l0 = true) ∧ l0.mergeSort leT = r := by
    unfold slices_SortFunc_int_int.f at h
    split at h
    · rename_i h1
      simp only [Bool.and_eq_true, decide_eq_true_eq, List.all_eq_true] at h1
      exact ⟨⟨h1.1.1, h1.1.2, h1.2⟩, Option.some.inj h⟩
    · cases h
  obtain ⟨⟨hsz, h3, hap⟩, rfl⟩ := hl
  by_cases hpos : 0 < l0.length
  · obtain ⟨g, cap, rfl, hbase, hgl, cells, hgb⟩ := Kd.S_form ho0 hpos
    obtain ⟨f, hk0, inner, hown, hrep⟩ := id ho0
    have hzl : (l0.zipIdx).length = l0.length := by simp
    rw [hzl] at hown
    have hil : inner.length = l0.length := by have := hrep.1; simpa [Kd.tag, Kd.slice] using this
    have hrow : ∀ i : Fin l0.length, ∃ A c, inner[i.1]'(by omega) = .slice A (l0[i.1]).length c ∧ (Kd.int .i64).R 3 w w0.heap.size (fun k_ => (P0_ k_ ∧ k_ ≠ g) ∧ f k_ = i.1) (.slice A (l0[i.1]).length c) l0[i.1] := by
      intro i
      obtain ⟨v, hv, hr⟩ := hrep.2 i.1 (l0[i.1], i.1) (Kd.zip_at (List.getElem?_eq_getElem i.2))
      have e1 : (inner.drop (i.1 * 1)).take 1 = [inner[i.1]'(by omega)] := by
        rw [Nat.mul_one, List.drop_eq_getElem_cons (by omega)]; rfl
      have e2 : [inner[i.1]'(by omega)] = [v] := e1.symm.trans hv
      obtain ⟨A, c, e3⟩ := Kd.R_slice hr
      refine ⟨A, c, by rw [← e3]; exact List.head_eq_of_cons_eq e2, ?_⟩
      rw [← e3]
      exact Kd.R_mono hr (fun k hk => ⟨⟨hk.1.1, fun e_ => hk.1.2 (by rw [e_]; rfl)⟩, hk.2⟩)
    haveI : Inhabited (Fin l0.length) := ⟨⟨0, hpos⟩⟩
    let enc : Fin l0.length → Value := fun i => inner[i.1]'(by omega)
    let cf : Fin l0.length → Fin l0.length → Int := fun i j => cmpT l0[i.1] l0[j.1]
    let d : Array (Fin l0.length) := (List.finRange l0.length).toArray
    have hd : d.size = l0.length := by simp [d]
    have h1 : OneCell enc := fun i => by
      obtain ⟨A, c, e, _⟩ := hrow i
      show (inner[i.1]'(by omega)).oneCell' = true
      rw [e]; rfl
    have hO : Go.Sort.SWO (ltOf cf) := ⟨fun i => by simp only [ltOf, cf, decide_eq_false_iff_not, cmpT_lt]; omega, fun i j k a b => by simp only [ltOf, cf, decide_eq_true_eq, cmpT_lt] at *; omega, fun i j k a b => by simp only [ltOf, cf, decide_eq_false_iff_not, cmpT_lt] at *; omega⟩
    have eg := enters_of Try.func74 (by kernel_rfl) rfl
    have hcmp : CmpLays1 Try.prog 74 #[] enc cf g 0 d.size w := by
      intro m os dk _ i j
      obtain ⟨A1, c1, e1, r1⟩ := hrow i
      obtain ⟨A2, c2, e2, r2⟩ := hrow j
      have q1 := Kd.R_step (w1 := Go.Proofs.sortWorld enc w g 0 m dk os) r1 (fun k hk hlt => sortHeap enc w g m dk os k hlt hk.1.2)
      have q2 := Kd.R_step (w1 := Go.Proofs.sortWorld enc w g 0 m dk os) r2 (fun k hk hlt => sortHeap enc w g m dk os k hlt hk.1.2)
      have hc := rightCmp.calls A1 c1 l0[i.1] A2 c2 l0[j.1] (Go.Proofs.sortWorld enc w g 0 m dk os) (h3 _ (List.getElem_mem _)) (h3 _ (List.getElem_mem _)) (Kd.R_reads' q1).2.2 (Kd.R_reads' q2).2.2 (Kd.R_reads' q1).2.1 (Kd.R_reads' q2).2.1
      have ea : (#[enc i, enc j] ++ #[] : Array Value) = #[.slice A1 (l0[i.1]).length c1, .slice A2 (l0[j.1]).length c2] := by
        show #[enc i, enc j] = _
        rw [show enc i = _ from e1, show enc j = _ from e2]
      rw [ea]
      exact hc
    have hH : Go.Sort.Holds enc w g 0 d := by
      intro j hj
      have hj' : j < l0.length := by omega
      have e1 : d[j]! = (⟨j, hj'⟩ : Fin l0.length) := by
        rw [getElem!_pos _ j hj]
        simp [d]
      have hcell := hown.cells (g := g) rfl j _ (List.getElem?_eq_getElem (show j < inner.length by omega))
      refine ⟨?_, by simp [World.frozen?, hgb]⟩
      rw [e1, Nat.zero_add]
      rwa [add_plain] at hcell
    have hpw := List.pairwise_iff_getElem.1 (apartT_pw l0 hap)
    have hT : ∀ x y, (ltOf cf) x y = false → (ltOf cf) y x = false → x = y := by
      intro x y a b
      simp only [ltOf, cf, decide_eq_false_iff_not, cmpT_lt] at a b
      have he : l0[x.1].getD 2 0 = l0[y.1].getD 2 0 ∧ l0[x.1].getD 0 0 = l0[y.1].getD 0 0 := by omega
      rcases Nat.lt_trichotomy x.1 y.1 with e | e | e
      · exact absurd (cmpT_eq.2 he) (hpw x.1 y.1 x.2 y.2 e)
      · exact Fin.ext e
      · exact absurd (cmpT_eq.2 ⟨he.1.symm, he.2.symm⟩) (hpw y.1 x.1 y.2 x.2 e)
    have hcon := Any.slices_SortFunc_total laysSF enc h1 cf hO 74 #[] g 0 cap d w eg hcmp hH hgl (by omega) hT
    change Calls Try.prog 73 _ _ _ at hcon
    rw [hd] at hcon
    refine hcon.mono ?_
    rintro e w' ⟨rfl, n, os, rfl⟩
    have hdl : d.toList = List.finRange l0.length := rfl
    rw [hdl]
    have hr : ((List.finRange l0.length).mergeSort fun x y => !(ltOf cf) y x).map (fun i => l0[i.1]) = l0.mergeSort leT := by
      refine (List.map_mergeSort (r := fun x y => !(ltOf cf) y x) (s := leT) (f := fun i : Fin l0.length => l0[i.1]) (l := List.finRange l0.length) (fun a _ b _ => rfl)).trans ?_
      congr 1
      exact List.ext_getElem (by simp) (fun i h1 h2 => by simp)
    obtain ⟨d', hd'⟩ : ∃ d', ((List.finRange l0.length).mergeSort fun x y => !(ltOf cf) y x) = d' := ⟨_, rfl⟩
    have hnd : d'.Nodup := by rw [← hd', (List.mergeSort_perm _ _).nodup_iff]; exact List.nodup_finRange _
    have hdn : d'.length = l0.length := by rw [← hd', List.length_mergeSort]; simp
    rw [hd'] at hr
    rw [hd', ← hr]
    rcases hown.2 with ⟨h0, _⟩ | ⟨g', cap', cur, hv, hg, hgb2, hn, hcap, hcs, htk⟩
    · cases h0
    cases hv
    have hso := ownsRow_sortedG enc (w := w) (base := w0.heap.size) (g := g) (cap := cap) (n := n) (N := l0.length) (os := os) (ts := d') hdn hbase hgb2 hn hcap hcs
    have hS := S_resort (W := Go.Sort.grow (Go.Sort.putRow enc (Go.Sort.ahead w n) g 0 d'.toArray) os) (f := f) (inner := inner) d' hnd hdn hk0
      (fun i => by obtain ⟨A, c, e, r⟩ := hrow i; exact ⟨_, by rw [List.getD_eq_getElem?_getD, List.getElem?_eq_getElem (by omega)]; exact e, r⟩)
      (fun k hk hne => sortHeap enc w g n d'.toArray os k hk hne)
      (by have he : (d'.map fun i => inner.getD i.1 (.bool false)) = d'.map enc := List.map_congr_left (fun i _ => by simp [enc, List.getD_eq_getElem?_getD, List.getElem?_eq_getElem (show i.1 < inner.length by omega)])
          rw [he]; exact hso)
    have hgr : w.grownBy (Go.Sort.grow (Go.Sort.putRow enc (Go.Sort.ahead w n) g 0 d'.toArray) os) (some g) := ⟨rfl, rfl, rfl, by simp, fun k hk hne => sortHeap enc w g n d'.toArray os k hk (fun e => hne (by rw [e]))⟩
    exact ⟨rfl, Kd.S_mono hS (fun _ hk => .inl hk), hB.grown hgr hB.size (fun k e_ => by cases e_; exact hbase), Kept.of_grown hgr (Kept.refl _ _) (fun k e_ => .inl (by cases e_; exact hk0 g rfl))⟩
  · have hnil : l0 = [] := List.eq_nil_of_length_eq_zero (by omega)
    subst hnil
    obtain ⟨A, c, rfl⟩ := Kd.S_slice ho0
    have hcon := AnyF.slices_SortFunc_none (P := Try.prog) (ρ := laysSF_ren) { laysSF with } A c (.func (.func 74) #[] #[]) w
    refine hcon.mono ?_
    rintro e w' ⟨rfl, rfl⟩
    exact ⟨rfl, by simpa using Kd.S_mono ho0 (fun _ hk => .inl hk), hB, Kept.refl _ _⟩

end Go.Proofs.Ytmjgklpccdigfaa.P
