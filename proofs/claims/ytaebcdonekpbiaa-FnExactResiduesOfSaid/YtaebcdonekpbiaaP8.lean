/- Written by a program of this session: for Go functions that a statement reaches, Lean functions with the same answers and the proofs that the calls come to them; conditions: none but the arguments' kinds. -/
import Derived.Test.YtaebcdonekpbiaaP0
import Derived.Test.YtaebcdonekpbiaaP6
import Derived.Test.YtaebcdonekpbiaaP7
namespace Go.Proofs.Ytaebcdonekpbiaa.P
open Go.RowKit Go.Proofs.YtaebcdonekpbiaaW.PrintWords Go.Proofs.YtaebcdonekpbiaaW.PrintLast Go.Proofs.YtaebcdonekpbiaaW.PrintMore
attribute [local go_sem] max2_int min2_int max_two min_two max_three min_three max_four min_four   -- for this text's walks alone
set_option linter.unusedVariables false
set_option linter.unusedSimpArgs false

/-! ### impl_ResiduesOf: function 6 -/
/-! A map keyed by arrays of four that the call keeps to itself: the set of the quadruples that were met. -/
def cv (c : List Int) : Value := .agg (nums .i64 c).toArray
theorem four_of {c : List Int} (h : c.length = 4) : ∃ a b d e, c = [a, b, d, e] := by
  match c, h with
  | [a, b, d, e], _ => exact ⟨a, b, d, e, rfl⟩
/-- Block b is a map whose keys are these quadruples, in this order; each holds true. -/
def SetAt (w : World) (b : Nat) (xs : List (List Int)) : Prop := (∀ x ∈ xs, x.length = 4) ∧ ∃ (es : Array MapEntry) (clock : Nat), w.heap[b]? = some (.map es clock) ∧ es.toList.map (fun e => (e.key, e.val)) = xs.map (fun x => (cv x, Value.bool true))
theorem cells3 : Try.prog.cellsOf 3 = 1 := by kernel_rfl
theorem eq34 (d : Nat) (a b : List Int) (ha : a.length = 4) (hb : b.length = 4) (W : World) : (Op.equalIn (d + 2) 34 (cv a) (cv b)).run Try.prog W = .ok (decide (a = b)) W := by
  obtain ⟨a0, a1, a2, a3, rfl⟩ := four_of ha
  obtain ⟨b0, b1, b2, b3, rfl⟩ := four_of hb
  obtain ⟨i, hi⟩ := info_of_underlying Try.underlying3
  have h := run_equalIn_array (P := Try.prog) (w := W) (d + 1) (t := 34) (e := 3) (n := 4) #[.int .i64 a0, .int .i64 a1, .int .i64 a2, .int .i64 a3] #[.int .i64 b0, .int .i64 b1, .int .i64 b2, .int .i64 b3] Try.underlying34 hi
  have e1 : ∀ x y : Int, (Op.equalIn (d + 1) 3 (.int .i64 x) (.int .i64 y)).run Try.prog W = .ok (x == y) W := fun x y => run_equalIn_int W d 3 .i64 .i64 x y Try.underlying3
  have h3 := Try.isAgg3 W
  refine h.trans ?_
  rw [cells3, show List.range 4 = [0, 1, 2, 3] from rfl]
  have p : ∀ (x0 x1 x2 x3 : Int), (part 3 #[.int .i64 x0, .int .i64 x1, .int .i64 x2, .int .i64 x3] 0).run Try.prog W = .ok (.int .i64 x0) W ∧ (part 3 #[.int .i64 x0, .int .i64 x1, .int .i64 x2, .int .i64 x3] 1).run Try.prog W = .ok (.int .i64 x1) W ∧ (part 3 #[.int .i64 x0, .int .i64 x1, .int .i64 x2, .int .i64 x3] 2).run Try.prog W = .ok (.int .i64 x2) W ∧ (part 3 #[.int .i64 x0, .int .i64 x1, .int .i64 x2, .int .i64 x3] 3).run Try.prog W = .ok (.int .i64 x3) W := by
    intro x0 x1 x2 x3
    refine ⟨?_, ?_, ?_, ?_⟩ <;> simp [part, h3, Result.andThen]
  obtain ⟨pa0, pa1, pa2, pa3⟩ := p a0 a1 a2 a3
  obtain ⟨pb0, pb1, pb2, pb3⟩ := p b0 b1 b2 b3
  by_cases h0 : a0 = b0
  · by_cases h1 : a1 = b1
    · by_cases h2 : a2 = b2
      · by_cases h4 : a3 = b3
        · subst h0 h1 h2 h4
          simp [Op.eqItems, pa0, pa1, pa2, pa3, e1]
        · subst h0 h1 h2
          simp [Op.eqItems, pa0, pa1, pa2, pa3, pb0, pb1, pb2, pb3, e1, h4]
      · subst h0 h1
        simp [Op.eqItems, pa0, pa1, pa2, pa3, pb0, pb1, pb2, e1, h2]
    · subst h0
      simp [Op.eqItems, pa0, pa1, pb0, pb1, e1, h1]
  · simp [Op.eqItems, pa0, pb0, e1, h0]
theorem find_ask (c : List Int) (hc : c.length = 4) (W : World) : ∀ (xs : List (List Int)) (es : List MapEntry) (i : Nat), (∀ x ∈ xs, x.length = 4) → es.map (fun e => (e.key, e.val)) = xs.map (fun x => (cv x, Value.bool true)) →
    (c ∉ xs → (Instr.findAsking 34 (cv c) es i).run Try.prog W = .ok none W) ∧ (c ∈ xs → ∃ j, (Instr.findAsking 34 (cv c) es i).run Try.prog W = .ok (some (j, .bool true)) W)
  | [], [], i, _, _ => ⟨fun _ => rfl, fun h => by simp at h⟩
  | [], e :: es, i, _, h => by simp at h
  | x :: xs, [], i, _, h => by simp at h
  | x :: xs, e :: es, i, hl, h => by
    simp only [List.map_cons, List.cons.injEq, Prod.mk.injEq] at h
    obtain ⟨⟨h1, h2⟩, h3⟩ := h
    have ih := find_ask c hc W xs es (i + 1) (fun y hy => hl y (List.mem_cons_of_mem _ hy)) h3
    have he : (Op.equal 34 (cv c) e.key).run Try.prog W = .ok (decide (c = x)) W := by rw [h1]; exact eq34 _ c x hc (hl x List.mem_cons_self) W
    by_cases hx : c = x
    · subst hx
      refine ⟨fun hn => absurd (List.mem_cons_self) hn, fun _ => ⟨i, ?_⟩⟩
      rw [Instr.findAsking]
      simp [he, Result.andThen, h2]
    · refine ⟨fun hn => ?_, fun hm => ?_⟩
      · rw [Instr.findAsking]
        simp [he, hx, Result.andThen, ih.1 (fun h => hn (List.mem_cons_of_mem _ h))]
      · obtain ⟨j, hj⟩ := ih.2 ((List.mem_cons.1 hm).resolve_left hx)
        refine ⟨j, ?_⟩
        rw [Instr.findAsking]
        simp [he, hx, Result.andThen, hj]
theorem find_key (c : List Int) (hc : c.length = 4) (W : World) (xs : List (List Int)) (es : List MapEntry) (hl : ∀ x ∈ xs, x.length = 4) (h : es.map (fun e => (e.key, e.val)) = xs.map (fun x => (cv x, Value.bool true))) :
    (c ∉ xs → (Instr.findKey 34 (cv c) es).run Try.prog W = .ok none W) ∧ (c ∈ xs → ∃ j, (Instr.findKey 34 (cv c) es).run Try.prog W = .ok (some (j, .bool true)) W) := by
  have ha := find_ask c hc W xs es 0 hl h
  cases es with
  | nil =>
    have hx : xs = [] := by
      cases xs with
      | nil => rfl
      | cons x xs => simp at h
    subst hx
    refine ⟨fun _ => ?_, fun h => by simp at h⟩
    unfold Instr.findKey
    simp [run_underlying Try.underlying34, Instr.findNow, Result.andThen]
  | cons e es =>
    have hk : e.key = cv (xs.headD c) := by
      cases xs with
      | nil => simp at h
      | cons x xs => simp only [List.map_cons, List.cons.injEq, Prod.mk.injEq] at h; exact h.1.1
    have hn : ∀ n d, Instr.findNow (.array n d) (cv c) (e :: es) 0 = none := by
      intro n d
      rw [Instr.findNow, hk]
      rfl
    unfold Instr.findKey
    refine ⟨fun hm => ?_, fun hm => ?_⟩
    · simp [run_underlying Try.underlying34, hn, Result.andThen, ha.1 hm]
    · obtain ⟨j, hj⟩ := ha.2 hm
      refine ⟨j, ?_⟩
      simp [run_underlying Try.underlying34, hn, Result.andThen, hj]
theorem chk34 (em : Bool) (c : List Int) (hc : c.length = 4) (W : World) : (Instr.checkKey em 10000 34 (cv c)).run Try.prog W = .ok () W := by
  obtain ⟨a, b, d, e, rfl⟩ := four_of hc
  cases em <;> kernel_rfl
theorem zero4 (W : World) : (zeroValue 4).run Try.prog W = .ok (.bool false) W := by kernel_rfl
theorem set_look {W : World} {b : Nat} {xs : List (List Int)} (h : SetAt W b xs) (c : List Int) (hc : c.length = 4) : (Instr.lookup 36 (.map (some b)) (cv c) false).run Try.prog W = .ok (.bool (decide (c ∈ xs))) W := by
  obtain ⟨hl, es, clock, hb, hk⟩ := h
  have hf := find_key c hc W xs es.toList hl hk
  by_cases hm : c ∈ xs
  · obtain ⟨j, hj⟩ := hf.2 hm
    simp [Instr.lookup, run_underlying Try.underlying36, MapKept.run_getObj_map hb, chk34 _ c hc, hj, Result.andThen, hm]
  · simp [Instr.lookup, run_underlying Try.underlying36, MapKept.run_getObj_map hb, chk34 _ c hc, hf.1 hm, zero4, Result.andThen, hm]
theorem set_put {W : World} {b : Nat} {xs : List (List Int)} (h : SetAt W b xs) (c : List Int) (hc : c.length = 4) (hm : c ∉ xs) :
    ∃ W', (Instr.mapUpdate 36 (.map (some b)) (cv c) (.bool true)).run Try.prog W = .ok () W' ∧ SetAt W' b (xs ++ [c]) ∧ (∀ i, i ≠ b → W'.heap[i]? = W.heap[i]?) ∧ W'.heap.size = W.heap.size ∧ W'.os = W.os ∧ W'.tape = W.tape ∧ W'.output = W.output := by
  obtain ⟨hl, es, clock, hb, hk⟩ := h
  have hf := find_key c hc W xs es.toList hl hk
  refine ⟨ChangeMaps.setBlock W b (.map (es.push ⟨cv c, .bool true, clock⟩) (clock + 1)), ?_, ⟨fun x hx => (List.mem_append.1 hx).elim (hl x) (fun h => by rw [List.mem_singleton.1 h]; exact hc), _, _, ChangeMaps.heap_setBlock_same hb _, ?_⟩, fun i hi => ChangeMaps.heap_setBlock_other hb _ hi, ?_, rfl, rfl, rfl⟩
  · simp [Instr.mapUpdate, run_underlying Try.underlying36, MapKept.run_getObj_map hb, chk34 _ c hc, hf.1 hm, MapKept.run_setObj_map _ hb, Result.andThen, ChangeMaps.setBlock]
  · simp [hk]
  · simp [ChangeMaps.setBlock]
theorem set_step {W W' : World} {b : Nat} {xs : List (List Int)} (h : SetAt W b xs) (he : W'.heap[b]? = W.heap[b]?) : SetAt W' b xs := by
  obtain ⟨hl, es, clock, hb, hk⟩ := h
  exact ⟨hl, es, clock, he.trans hb, hk⟩
theorem set_lt {W : World} {b : Nat} {xs : List (List Int)} (h : SetAt W b xs) : b < W.heap.size := by
  obtain ⟨hl, es, clock, hb, hk⟩ := h
  exact (Array.getElem?_eq_some_iff.1 hb).1
set_option maxHeartbeats 8000000 in
set_option maxRecDepth 100000 in
theorem resMod.calls (n : Int) (w : World) : Calls Try.prog 17 #[.int .i64 n] w fun e w' => e = .returned (.int .i64 (n % 24)) ∧ Drawn0 w w' := by
  have hr : Int.tmod (wrap64 (Int.tmod n 24 + 24)) 24 = n % 24 := by
    have h1 : -24 < Int.tmod n 24 ∧ Int.tmod n 24 < 24 := by
      have := Int.tmod_lt_of_pos n (show (0 : Int) < 24 by decide)
      have h2 := Int.lt_tmod_of_pos n (show (0 : Int) < 24 by decide)
      omega
    have hw : wrap64 (Int.tmod n 24 + 24) = Int.tmod n 24 + 24 := by unfold wrap64; omega
    rw [hw, Int.tmod_eq_emod_of_nonneg (by omega)]
    have h3 := Int.mul_tdiv_add_tmod n 24
    omega
  rw [← hr]
  clear hr
  go_enter Try.func17, Try.ntmps17
  go_wp2
  go_ret
  exact ⟨rfl, Drawn0.refl _⟩
abbrev kA : Kd (List Int) := Kd.arr 4 (Kd.int .i64) (by decide)
theorem info34 : (Try.prog.info? 34).map (fun i => (i.zero, i.size, i.bytes)) = some (some (.agg #[(.int .i64 0), (.int .i64 0), (.int .i64 0), (.int .i64 0)]), 4, 32) := by kernel_rfl
theorem size34 : (Try.prog.info? 34).map (·.size) = some 4 := by kernel_rfl
theorem size37 : (Try.prog.info? 37).map (·.size) = some 24 := by kernel_rfl
theorem kA_mkM (w : World) (base : Nat) (ok : Nat → Prop) (x : List Int) (h : x.length = 4) : kA.M w base ok x (nums .i64 x) := Kd.arr_of_cells h
theorem kA_open {w : World} {x : List Int} {cs : List Value} (h : kA.K w x cs) : x.length = 4 ∧ cs = nums .i64 x := Kd.arr_cells h
def rowA (qs : List (List Int)) (i : Int) : List Int := qs.getD i.toNat []
theorem at_A {w : World} {A : Option Addr} {n : Nat} {xs : List (List Int)} (h : Kd.C kA w A n xs) (i : Int) (h0 : 0 ≤ i) (h1 : i < n) : ∃ ad a b d e, A = some ad ∧ rowA xs i = [a, b, d, e] ∧ w.cell? (ad.add (i.toNat * 4)) = some (.int .i64 a) ∧ w.cell? ⟨(ad.add (i.toNat * 4)).block, (ad.add (i.toNat * 4)).off + 1, none⟩ = some (.int .i64 b) ∧ w.cell? ⟨(ad.add (i.toNat * 4)).block, (ad.add (i.toNat * 4)).off + 2, none⟩ = some (.int .i64 d) ∧ w.cell? ⟨(ad.add (i.toNat * 4)).block, (ad.add (i.toNat * 4)).off + 3, none⟩ = some (.int .i64 e) := by
  obtain ⟨ad, c, e, _, hK, hc0⟩ := Kd.C_get h [] i h0 h1
  have hc : ∀ j u, c[j]? = some u → w.cell? (ad.add (i.toNat * 4 + j)) = some u := hc0
  obtain ⟨hl, rfl⟩ := kA_open hK
  obtain ⟨a, b, d, e', he⟩ := four_of hl
  have hr : rowA xs i = [a, b, d, e'] := he
  rw [he] at hc
  exact ⟨ad, a, b, d, e', e, hr, hc 0 _ rfl, by rw [← add_field _ _ 1 (by omega)]; exact hc 1 _ rfl, by rw [← add_field _ _ 2 (by omega)]; exact hc 2 _ rfl, by rw [← add_field _ _ 3 (by omega)]; exact hc 3 _ rfl⟩
/-- A block that holds an array of four. -/
def ArrAt (W : World) (g : Nat) (c : List Int) : Prop := W.heap[g]? = some (Obj.cells (nums .i64 c).toArray 34 (0, 0))
theorem ArrAt.C {W : World} {g : Nat} {c : List Int} (h : ArrAt W g c) (hc : c.length = 4) : Kd.C (Kd.int .i64) W (some ⟨g, 0, none⟩) c.length c := by
  refine Kd.C_of_reads (d := (0 : Int)) ⟨rfl, by omega, fun _ => ⟨_, rfl, fun j hj => ?_⟩⟩
  have ha : (⟨g, 0, none⟩ : Addr).add j = ⟨g, j, none⟩ := by unfold Addr.add; split <;> simp_all
  rw [ha, blk_cell h]
  simp [nums, List.getD_eq_getElem?_getD, List.getElem?_eq_getElem hj]
theorem ArrAt.cell {W : World} {g : Nat} {c : List Int} (h : ArrAt W g c) (j : Nat) (v : Int) (hv : c[j]? = some v) : W.cell? ⟨g, j, none⟩ = some (.int .i64 v) := by
  rw [blk_cell h]
  simp [nums, hv]
theorem ArrAt.lt {W : World} {g : Nat} {c : List Int} (h : ArrAt W g c) : g < W.heap.size := blk_lt h
theorem arr_store {P : Program} {ops : Array Oper} {rest : List Oper} {o : Oper} {a : Act} {W : World} {Q : Exit → Act → World → Prop} (hgd : o.guard = none) (ty : TypeId) (x y : Operand) (ho : o.op = .store ty x y) (hN : o.dst = none)
    (g : Nat) (cells old : Array Value) (hx : a.eval x = .pointer (some ⟨g, 0, none⟩)) (hy : a.eval y = .agg cells) (t : TypeId) (hg : W.heap[g]? = some (.cells old t (0, 0))) (hi : (P.info? ty).map (·.size) = some cells.size) (hold : old.size = cells.size)
    (h1 : cells.all (·.oneCell') = true) (h : ∀ W', W'.heap[g]? = some (.cells cells t (0, 0)) → (∀ k, k ≠ g → W'.heap[k]? = W.heap[k]?) → W'.heap.size = W.heap.size → W'.os = W.os → W'.tape = W.tape → W'.output = W.output → wpList P ops Q rest a W') : wpList P ops Q (o :: rest) a W := by
  refine wpList_plain hgd fun K hK => ?_
  refine wp_store_row ty x y ho g cells hx hy t old hg hi hold h1 ?_
  rw [hN]
  refine hK _ _ (h _ ?_ ?_ ?_ rfl rfl rfl)
  · have hlt : g < W.heap.size := (Array.getElem?_eq_some_iff.1 hg).1
    have hv : W.heap[g] = .cells old t (0, 0) := (Array.getElem?_eq_some_iff.1 hg).2
    simp [World.setRow, Array.getElem?_modify, hg]
  · intro k hk
    simp only [World.setRow, Array.getElem?_modify]
    rw [if_neg (fun e => hk e.symm)]
  · simp [World.setRow]
/-- What the search keeps: the box of the marks, the set, the queue, some arrays; all behind the heap that the call found. -/
def Rs (w0 : World) (gh bm : Nat) (qv : Value) (ms qs : List (List Int)) (hs : List Bool) (xs : List (Nat × List Int)) (W : World) : Prop :=
  w0.heap.size ≤ gh ∧ w0.heap.size ≤ bm ∧ hs.length = 24 ∧ W.heap[gh]? = some (Obj.cells (bools hs).toArray 37 (0, 0)) ∧ SetAt W bm ms ∧ Kd.R kA 34 W w0.heap.size (fun k => ∀ p ∈ xs, k ≠ p.1) qv qs ∧ (∀ p ∈ xs, w0.heap.size ≤ p.1 ∧ ArrAt W p.1 p.2) ∧ Below w0.heap.size w0 W
section
variable {w0 W W' : World} {gh bm : Nat} {qv : Value} {ms qs : List (List Int)} {hs : List Bool} {xs : List (Nat × List Int)}
theorem Rs.bel (h : Rs w0 gh bm qv ms qs hs xs W) : Below w0.heap.size w0 W := h.2.2.2.2.2.2.2
theorem Rs.lt (h : Rs w0 gh bm qv ms qs hs xs W) : gh < W.heap.size ∧ bm < W.heap.size ∧ (∀ k, qv.ownBlock = some k → k < W.heap.size) ∧ ∀ p ∈ xs, p.1 < W.heap.size :=
  ⟨blk_lt h.2.2.2.1, set_lt h.2.2.2.2.1, fun k hk => Kd.R_lt h.2.2.2.2.2.1 k hk, fun p hp => (h.2.2.2.2.2.2.1 p hp).2.lt⟩
theorem Rs.step (h : Rs w0 gh bm qv ms qs hs xs W) (hm : ∀ k, k < W.heap.size → (k = gh ∨ k = bm ∨ some k = qv.ownBlock ∨ ∃ p ∈ xs, k = p.1) → W'.heap[k]? = W.heap[k]?) (hb : Below w0.heap.size w0 W') : Rs w0 gh bm qv ms qs hs xs W' := by
  obtain ⟨l1, l2, l3, l4⟩ := h.lt
  obtain ⟨h1, h2, h3, h4, h5, h6, h7, h8⟩ := h
  refine ⟨h1, h2, h3, (hm gh l1 (.inl rfl)).trans h4, set_step h5 (hm bm l2 (.inr (.inl rfl))), ?_, fun p hp => ⟨(h7 p hp).1, (hm p.1 (l4 p hp) (.inr (.inr (.inr ⟨p, hp, rfl⟩)))).trans (h7 p hp).2⟩, hb⟩
  exact Kd.R_mono (Kd.R_step (Kd.R_tight2 rfl h6) (fun k hk hlt => hm k hlt (.inr (.inr (.inl hk.1))))) (fun k hk => hk.2)
theorem Rs.below (h : Rs w0 gh bm qv ms qs hs xs W) (hb : Below W.heap.size W W') : Rs w0 gh bm qv ms qs hs xs W' := h.step (fun k hk _ => hb.block k hk) (below_step h.bel hb)
/-- A new array. -/
theorem Rs.arr (h : Rs w0 gh bm qv ms qs hs xs W) {g : Nat} {c : List Int} (hg : g = W.heap.size) (hbox : ArrAt W' g c) (hb : Below W.heap.size W W') : Rs w0 gh bm qv ms qs hs ((g, c) :: xs) W' := by
  have hl := h.lt
  have h' := h.below hb
  obtain ⟨h1, h2, h3, h4, h5, h6, h7, h8⟩ := h'
  refine ⟨h1, h2, h3, h4, h5, Kd.R_mono (Kd.R_tight2 rfl h6) (fun k hk => ?_), fun p hp => ?_, h8⟩
  · intro p hp
    rcases List.mem_cons.1 hp with rfl | hp
    · have := hl.2.2.1 k hk.1.symm
      simp only
      omega
    · exact hk.2 p hp
  · rcases List.mem_cons.1 hp with rfl | hp
    · exact ⟨by have := below_size h.bel; simp only; omega, hbox⟩
    · exact h7 p hp
theorem Rs.drop {p : Nat × List Int} (h : Rs w0 gh bm qv ms qs hs (p :: xs) W) : Rs w0 gh bm qv ms qs hs xs W := by
  obtain ⟨h1, h2, h3, h4, h5, h6, h7, h8⟩ := h
  exact ⟨h1, h2, h3, h4, h5, Kd.R_mono h6 (fun k hk q hq => hk q (List.mem_cons_of_mem _ hq)), fun q hq => h7 q (List.mem_cons_of_mem _ hq), h8⟩
theorem Rs.at0 {g : Nat} {c : List Int} (h : Rs w0 gh bm qv ms qs hs ((g, c) :: xs) W) : ArrAt W g c := (h.2.2.2.2.2.2.1 _ List.mem_cons_self).2
theorem Rs.at1 {g : Nat} {c : List Int} {p : Nat × List Int} (h : Rs w0 gh bm qv ms qs hs (p :: (g, c) :: xs) W) : ArrAt W g c := (h.2.2.2.2.2.2.1 _ (List.mem_cons_of_mem _ List.mem_cons_self)).2
/-- An array is written. -/
theorem Rs.store {g : Nat} {old c : List Int} (h : Rs w0 gh bm qv ms qs hs ((g, old) :: xs) W) (hne : ∀ p ∈ xs, p.1 ≠ g) (hg : ArrAt W' g c) (ho : ∀ k, k ≠ g → W'.heap[k]? = W.heap[k]?) (hb : Below w0.heap.size w0 W') : Rs w0 gh bm qv ms qs hs ((g, c) :: xs) W' := by
  have ha := h.at0
  obtain ⟨h1, h2, h3, h4, h5, h6, h7, h8⟩ := h
  have n1 : gh ≠ g := by
    rintro rfl
    injection Option.some.inj (h4.symm.trans ha) with _ e2 _
    exact absurd e2 (by decide)
  have n2 : bm ≠ g := by
    rintro rfl
    obtain ⟨_, es, cl, hm, _⟩ := h5
    have := hm.symm.trans ha
    cases this
  refine ⟨h1, h2, h3, (ho gh n1).trans h4, set_step h5 (ho bm n2), ?_, fun p hp => ?_, hb⟩
  · refine Kd.R_mono (Kd.R_step (Kd.R_tight2 rfl h6) (fun k hk hlt => ho k (hk.2 _ List.mem_cons_self))) (fun k hk p hp => ?_)
    rcases List.mem_cons.1 hp with rfl | hp
    · exact hk.2 (g, old) List.mem_cons_self
    · exact hk.2 p (List.mem_cons_of_mem _ hp)
  · rcases List.mem_cons.1 hp with rfl | hp
    · exact ⟨(h7 (g, old) List.mem_cons_self).1, hg⟩
    · exact ⟨(h7 p (List.mem_cons_of_mem _ hp)).1, (ho p.1 (hne p hp)).trans (h7 p (List.mem_cons_of_mem _ hp)).2⟩
theorem Rs.row {g : Nat} {old c : List Int} (h : Rs w0 gh bm qv ms qs hs ((g, old) :: xs) W) (hne : ∀ p ∈ xs, p.1 ≠ g) (hg : ArrAt W' g c) (ho : ∀ k, k ≠ g → W'.heap[k]? = W.heap[k]?) (h3 : W'.heap.size = W.heap.size) (h4 : W'.os = W.os) (h5 : W'.tape = W.tape) (h6 : W'.output = W.output) : Rs w0 gh bm qv ms qs hs ((g, c) :: xs) W' :=
  h.store hne hg ho ⟨h4.trans h.bel.os, h5.trans h.bel.tape, h6.trans h.bel.output, by have := h.bel.size; omega, fun k hk => (ho k (by have := (h.2.2.2.2.2.2.1 _ List.mem_cons_self).1; simp only at this; omega)).trans (h.bel.block k hk)⟩
theorem Rs.elem {g : Nat} {old : List Int} (h : Rs w0 gh bm qv ms qs hs ((g, old) :: xs) W) (hne : ∀ p ∈ xs, p.1 ≠ g) (i : Nat) (v : Int) : Rs w0 gh bm qv ms qs hs ((g, old.set i v) :: xs) (W.setCell ⟨g, i, none⟩ (.int .i64 v)) := by
  refine h.store hne ?_ (fun k hk => Below.heap_setCell W ⟨g, i, none⟩ _ k hk) (below_set h.bel (h.2.2.2.2.2.2.1 _ List.mem_cons_self).1)
  have h1 := blk_set (show W.heap[g]? = some (Obj.cells (nums .i64 old).toArray 34 (0, 0)) from h.at0) i (.int .i64 v)
  have e : (nums .i64 old).toArray.setIfInBounds i (.int .i64 v) = (nums .i64 (old.set i v)).toArray := by
    rw [List.setIfInBounds_toArray]
    simp [nums, List.map_set]
  rw [e] at h1
  exact h1
/-- A mark. -/
theorem Rs.mark (h : Rs w0 gh bm qv ms qs hs xs W) (i : Nat) : Rs w0 gh bm qv ms qs (hs.set i true) xs (W.setCell ⟨gh, i, none⟩ (.bool true)) := by
  obtain ⟨h1, h2, h3, h4, h5, h6, h7, h8⟩ := h
  have ho : ∀ k, k ≠ gh → (W.setCell ⟨gh, i, none⟩ (.bool true)).heap[k]? = W.heap[k]? := fun k hk => Below.heap_setCell W ⟨gh, i, none⟩ _ k hk
  have n2 : bm ≠ gh := by
    rintro rfl
    obtain ⟨_, es, cl, hm, _⟩ := h5
    have := hm.symm.trans h4
    cases this
  refine ⟨h1, h2, by rw [List.length_set]; exact h3, ?_, set_step h5 (ho bm n2), ?_, fun p hp => ⟨(h7 p hp).1, (ho p.1 ?_).trans (h7 p hp).2⟩, below_set h8 h1⟩
  · have e : (bools hs).toArray.setIfInBounds i (.bool true) = (bools (hs.set i true)).toArray := by
      rw [List.setIfInBounds_toArray]
      simp [bools, List.map_set]
    rw [← e]
    exact blk_set h4 i _
  · refine Kd.R_mono (Kd.R_step (Kd.R_tight2 rfl h6) (fun k hk hlt => ho k ?_)) (fun k hk => hk.2)
    rintro rfl
    obtain ⟨cells, hc⟩ := Kd.R_typed h6 k hk.1.symm
    have := hc.symm.trans h4
    cases this
  · intro e
    have ha := (h7 p hp).2
    rw [e] at ha
    injection Option.some.inj (ha.symm.trans h4) with _ e2 _
    exact absurd e2 (by decide)
theorem Rs.hcell (h : Rs w0 gh bm qv ms qs hs xs W) (n : Int) (h0 : 0 ≤ n) (h1 : n < 24) : W.cell? ⟨gh, n.toNat, none⟩ = some (.bool (hs.getD n.toNat false)) ∧ W.frozen? ⟨gh, n.toNat, none⟩ = false := by
  refine ⟨?_, blk_frozen h.2.2.2.1 _⟩
  rw [blk_cell h.2.2.2.1]
  have := h.2.2.1
  simp [bools, List.getD_eq_getElem?_getD, List.getElem?_eq_getElem (show n.toNat < hs.length by omega)]
/-- The set grows. -/
theorem Rs.put (h : Rs w0 gh bm qv ms qs hs xs W) (c : List Int) (hc : c.length = 4) (hm : c ∉ ms) :
    ∃ W', (Instr.mapUpdate 36 (.map (some bm)) (cv c) (.bool true)).run Try.prog W = .ok () W' ∧ Rs w0 gh bm qv (ms ++ [c]) qs hs xs W' := by
  obtain ⟨h1, h2, h3, h4, h5, h6, h7, h8⟩ := h
  obtain ⟨W', hup, hS2, hot, hsz, ho1, ho2, ho3⟩ := set_put h5 c hc hm
  have hne : ∀ (i t : Nat) (cs : Array Value), W.heap[i]? = some (Obj.cells cs t (0, 0)) → i ≠ bm := by
    intro i t cs hi e
    subst e
    obtain ⟨_, es, cl, hm, _⟩ := h5
    have := hm.symm.trans hi
    cases this
  refine ⟨W', hup, h1, h2, h3, (hot _ (hne _ _ _ h4)).trans h4, hS2, ?_, fun p hp => ⟨(h7 p hp).1, (hot _ (hne _ _ _ (h7 p hp).2)).trans (h7 p hp).2⟩, ⟨ho1.trans h8.os, ho2.trans h8.tape, ho3.trans h8.output, by have := h8.size; omega, fun k hk => (hot k (by omega)).trans (h8.block k hk)⟩⟩
  refine Kd.R_mono (Kd.R_step (Kd.R_tight2 rfl h6) (fun k hk hlt => hot k ?_)) (fun k hk => hk.2)
  obtain ⟨cells, hcl⟩ := Kd.R_typed h6 k hk.1.symm
  exact hne _ _ _ hcl
/-- The queue grows. -/
theorem Rs.queue {qv' : Value} {qs' : List (List Int)} (h : Rs w0 gh bm qv ms qs hs xs W) (hq : Kd.R kA 34 W' w0.heap.size (fun k => ∀ p ∈ xs, k ≠ p.1) qv' qs') (hg : W.grownBy W' qv.ownBlock) (hb : Below w0.heap.size w0 W') : Rs w0 gh bm qv' ms qs' hs xs W' := by
  obtain ⟨l1, l2, l3, l4⟩ := h.lt
  obtain ⟨h1, h2, h3, h4, h5, h6, h7, h8⟩ := h
  have hty : ∀ k, qv.ownBlock = some k → ∃ cells, W.heap[k]? = some (.cells cells 34 (0, 0)) := fun k hk => Kd.R_typed h6 k hk
  refine ⟨h1, h2, h3, (hg.block gh l1 (fun e => ?_)).trans h4, set_step h5 (hg.block bm l2 (fun e => ?_)), hq, fun p hp => ⟨(h7 p hp).1, (hg.block p.1 (l4 p hp) (fun e => ?_)).trans (h7 p hp).2⟩, hb⟩
  · obtain ⟨cells, hc⟩ := hty gh e.symm
    have := hc.symm.trans h4
    cases this
  · obtain ⟨cells, hc⟩ := hty bm e.symm
    obtain ⟨_, es, cl, hm, _⟩ := h5
    have := hm.symm.trans hc
    cases this
  · exact h6.1 p.1 e.symm p hp rfl
theorem Rs.fresh (h : Rs w0 gh bm qv ms qs hs xs W) (k : Nat) (hk : W.heap.size ≤ k) : ∀ p ∈ xs, k ≠ p.1 := fun p hp => by
  have := h.lt.2.2.2 p hp
  omega
end
theorem rs_index (L : List Bool) (hL : L.length = 24) (i : Nat) (hi : i < 24) (w : World) : (Instr.index 37 (.agg (bools L).toArray) (.int .i64 i)).run Try.prog w = .ok (.bool (L.getD i false)) w := by
  have hu := Try.underlying37
  have h4 := Try.isAgg4 w
  have h5 := Try.sizeOf4 w
  have hc : (bools L)[i]? = some (.bool (L.getD i false)) := by
    simp [bools, List.getD_eq_getElem?_getD, List.getElem?_eq_getElem (show i < L.length by omega)]
  unfold Instr.index
  simp only [asIntOf, Sem.run_bind, Sem.run_pure, Result.andThen_ok, run_underlying hu]
  rw [if_pos (by omega)]
  simp only [Sem.run_bind, h5, Result.andThen_ok, part, h4, Int.toNat_natCast, Nat.mul_one]
  rw [if_neg (by decide)]
  simp only [List.getElem?_toArray, hc]
  rfl
theorem ra_index (c : List Int) (hc4 : c.length = 4) (i : Int) (h0 : 0 ≤ i) (h1 : i < 4) (w : World) : (Instr.index 34 (.agg (nums .i64 c).toArray) (.int .i64 i)).run Try.prog w = .ok (.int .i64 (rd c i)) w := by
  have hu := Try.underlying34
  have h4 := Try.isAgg3 w
  have h5 := Try.sizeOf3 w
  have hc : (nums .i64 c)[i.toNat]? = some (.int .i64 (rd c i)) := by
    simp [nums, rd, List.getD_eq_getElem?_getD, List.getElem?_eq_getElem (show i.toNat < c.length by omega)]
  unfold Instr.index
  simp only [asIntOf, Sem.run_bind, Sem.run_pure, Result.andThen_ok, run_underlying hu]
  rw [if_pos (by omega)]
  simp only [Sem.run_bind, h5, Result.andThen_ok, part, h4, Nat.mul_one]
  rw [if_neg (by decide)]
  simp only [List.getElem?_toArray, hc]
  rfl
theorem setRow_id (w : World) (g : Nat) (cs : Array Value) (t : TypeId) (h : w.heap[g]? = some (.cells cs t (0, 0))) : w.setRow g cs = w := by
  have hlt : g < w.heap.size := (Array.getElem?_eq_some_iff.1 h).1
  have hv : w.heap[g] = .cells cs t (0, 0) := (Array.getElem?_eq_some_iff.1 h).2
  unfold World.setRow
  cases w with
  | mk heap tape drawn os output =>
    congr 1
    apply Array.ext
    · simp
    · intro k h1 h2
      simp only [Array.getElem_modify]
      split
      · rename_i hk; subst hk; simp at hv; simp [hv]
      · rfl
theorem kA_one (w : World) (base : Nat) (ok : Nat → Prop) (x : List Int) (h : x.length = 4) : Reps (kA.M w base ok) 4 [x] (nums .i64 x) := by
  refine ⟨by simp [nums, h], fun j p hj => ?_⟩
  cases j with
  | zero =>
    simp only [List.getElem?_cons_zero, Option.some.injEq] at hj
    subst hj
    rw [Nat.zero_mul, List.drop_zero, List.take_of_length_le (by simp [nums, h])]
    exact kA_mkM _ _ _ _ h
  | succ j => simp at hj
theorem bools_one (L : List Bool) : ((bools L).toArray).all (·.oneCell') = true := by
  rw [Array.all_eq_true_iff_forall_mem]
  intro v hv
  rw [List.mem_toArray] at hv
  obtain ⟨b, _, rfl⟩ := List.mem_map.1 hv
  rfl
theorem nums_one (L : List Int) : ((nums .i64 L).toArray).all (·.oneCell') = true := by
  rw [Array.all_eq_true_iff_forall_mem]
  intro v hv
  rw [List.mem_toArray] at hv
  obtain ⟨b, _, rfl⟩ := List.mem_map.1 hv
  rfl
/-- What the region that lays the queue, the set and the marks has laid so far. -/
def Pk (w0 : World) (gs : Nat) (S : List Int) (q : Option Value) (m : Option (Nat × Bool)) (g : Option Nat) (W : World) : Prop :=
  Below w0.heap.size w0 W ∧ ArrAt W gs S ∧ (∀ v, q = some v → Kd.R kA 34 W w0.heap.size (fun _ => True) v [S]) ∧ (∀ b f, m = some (b, f) → w0.heap.size ≤ b ∧ SetAt W b (if f = true then [S] else [])) ∧
  (∀ x, g = some x → w0.heap.size ≤ x ∧ W.heap[x]? = some (Obj.cells (bools (List.replicate 24 false)).toArray 37 (0, 0)))
section
variable {w0 W W' : World} {gs : Nat} {S : List Int} {q : Option Value} {m : Option (Nat × Bool)} {g : Option Nat}
theorem Pk.below (h : Pk w0 gs S q m g W) (hb : Below W.heap.size W W') : Pk w0 gs S q m g W' :=
  ⟨below_step h.1 hb, blk_below h.2.1 hb, fun v hv => Kd.R_below (h.2.2.1 v hv) hb, fun b f hm => ⟨(h.2.2.2.1 b f hm).1, set_step (h.2.2.2.1 b f hm).2 (hb.block _ (set_lt (h.2.2.2.1 b f hm).2))⟩, fun x hx => ⟨(h.2.2.2.2 x hx).1, blk_below (h.2.2.2.2 x hx).2 hb⟩⟩
theorem Pk.setq (h : Pk w0 gs S none m g W) {v : Value} (hv : Kd.R kA 34 W' W.heap.size (fun _ => True) v [S]) (hb : Below W.heap.size W W') : Pk w0 gs S (some v) m g W' := by
  obtain ⟨a1, a2, a3, a4, a5⟩ := h.below hb
  refine ⟨a1, a2, fun u hu => ?_, a4, a5⟩
  cases hu
  exact Kd.R_lower hv (below_size h.1)
theorem Pk.setm (h : Pk w0 gs S q none g W) : Pk w0 gs S q (some (W.heap.size, false)) g (W.alloc (.map #[] 0)) := by
  obtain ⟨a1, a2, a3, a4, a5⟩ := h.below (below_alloc (Below.refl W.heap.size W) (.map #[] 0))
  refine ⟨a1, a2, a3, fun b f hb => ?_, a5⟩
  cases hb
  exact ⟨below_size h.1, by simp, #[], 0, Array.getElem?_push_size, rfl⟩
theorem Pk.setg (h : Pk w0 gs S q m none W) {x : Nat} (hx : x = W.heap.size) (hbox : W'.heap[x]? = some (Obj.cells (bools (List.replicate 24 false)).toArray 37 (0, 0))) (hb : Below W.heap.size W W') : Pk w0 gs S q m (some x) W' := by
  obtain ⟨a1, a2, a3, a4, a5⟩ := h.below hb
  refine ⟨a1, a2, a3, a4, fun y hy => ?_⟩
  cases hy
  exact ⟨by have := below_size h.1; omega, hbox⟩
theorem Pk.put {b : Nat} (h : Pk w0 gs S q (some (b, false)) g W) (hS : S.length = 4) : ∃ W', (Instr.mapUpdate 36 (.map (some b)) (cv S) (.bool true)).run Try.prog W = .ok () W' ∧ Pk w0 gs S q (some (b, true)) g W' := by
  obtain ⟨a1, a2, a3, a4, a5⟩ := h
  obtain ⟨hb0, hset⟩ := a4 b false rfl
  obtain ⟨W', hup, hS2, hot, hsz, ho1, ho2, ho3⟩ := set_put hset S hS (by simp)
  have hne : ∀ (i t : Nat) (cs : Array Value), W.heap[i]? = some (Obj.cells cs t (0, 0)) → i ≠ b := by
    intro i t cs hi e
    subst e
    obtain ⟨_, es, cl, hm, _⟩ := hset
    have := hm.symm.trans hi
    cases this
  refine ⟨W', hup, ⟨ho1.trans a1.os, ho2.trans a1.tape, ho3.trans a1.output, by have := a1.size; omega, fun k hk => (hot k (by omega)).trans (a1.block k hk)⟩, (hot _ (hne _ _ _ a2)).trans a2, fun v hv => ?_, fun b' f hb => ?_, fun x hx => ⟨(a5 x hx).1, (hot _ (hne _ _ _ (a5 x hx).2)).trans (a5 x hx).2⟩⟩
  · refine Kd.R_mono (Kd.R_step (Kd.R_tight2 rfl (a3 v hv)) (fun k hk hlt => hot k ?_)) (fun k hk => trivial)
    obtain ⟨cells, hcl⟩ := Kd.R_typed (a3 v hv) k hk.1.symm
    exact hne _ _ _ hcl
  · cases hb
    exact ⟨hb0, hS2⟩
theorem Pk.fin {v : Value} {b x : Nat} (h : Pk w0 gs S (some v) (some (b, true)) (some x) W) : Rs w0 x b v [S] [S] (List.replicate 24 false) [] W :=
  ⟨(h.2.2.2.2 x rfl).1, (h.2.2.2.1 b true rfl).1, by simp, (h.2.2.2.2 x rfl).2, (h.2.2.2.1 b true rfl).2, Kd.R_mono (h.2.2.1 v rfl) (fun k _ p hp => by simp at hp), fun p hp => by simp at hp, h.1⟩
end
section
variable {P : Program} {ops : Array Oper} {o : Oper} {a : Act} {Q : Exit → Act → World → Prop} {Kc : Act → World → Prop}
theorem skip_step {W w1 : World} {N : Option Tmp} (hw : Region.wanted o (yielded ops a.tmps) = true) (hN : o.dst = none) (hrun : (execOp a.eval o).run P W = .ok .skip w1) (h : Kc a w1) : if Region.wanted o (yielded ops a.tmps) = true then Oper.wp P o a W Kc Q else Kc (a.put N undef) W := by
  rw [if_pos hw]
  unfold Oper.wp
  rw [hrun]
  show Kc (a.put o.dst undef) w1
  rw [hN]
  exact h
end
def selB : Int → List Bool → List Int
  | _, [] => []
  | i, b :: r => if b = true then i :: selB (i + 1) r else selB (i + 1) r
mutual
def impl_ResiduesOf.l1 : Nat → List (List Int) → List Bool → Int → Option (List Int × Bool)
  | 0, _, _, _ => none
  | k + 1, qs, hs, x => if x < (qs.length : Int) then (if 0 ≤ x then (impl_ResiduesOf.l2 k qs hs x (rowA qs x) 0) else none) else (some (selB 0 hs, true))
def impl_ResiduesOf.l2 : Nat → List (List Int) → List Bool → Int → List Int → Int → Option (List Int × Bool)
  | 0, _, _, _, _, _ => none
  | k + 1, qs, hs, x, c, i => (if i < 4 then (if 0 ≤ rd c i then (if rd c i < 24 then ((impl_swapped.f k c i).bind fun t => (if i < (t.length : Int) then (if c.set i.toNat (rd t i % 24) ∈ qs then (impl_ResiduesOf.l2 k qs (hs.set (rd c i).toNat true) x c (wrap64 (i + 1))) else (if qs.length < 4398046511104 then (impl_ResiduesOf.l2 k (qs ++ [c.set i.toNat (rd t i % 24)]) (hs.set (rd c i).toNat true) x c (wrap64 (i + 1))) else none)) else none)) else none) else none) else (impl_ResiduesOf.l1 k qs hs (wrap64 (x + 1))))
end
def impl_ResiduesOf.f (k : Nat) (l0 : List Int) : Option (List Int × Bool) := ((impl_IsQuad.f k l0).bind fun t1 => (if t1 = true then ((impl_scale.f k l0).bind fun t2 => (if t2 = 1 then (if l0.length = 4 then (impl_ResiduesOf.l1 k [l0.map (fun n => n % 24)] (List.replicate 24 false) 0) else none) else (some (([] : List Int), false)))) else (some (([] : List Int), false))))
theorem impl_ResiduesOf.mono_l : ∀ k, (∀ y0 y1 y2, LeO (impl_ResiduesOf.l1 k y0 y1 y2) (impl_ResiduesOf.l1 (k + 1) y0 y1 y2)) ∧ (∀ y0 y1 y2 y3 y4, LeO (impl_ResiduesOf.l2 k y0 y1 y2 y3 y4) (impl_ResiduesOf.l2 (k + 1) y0 y1 y2 y3 y4))
  | 0 => ⟨fun _ _ _ r h => by simp [impl_ResiduesOf.l1] at h, fun _ _ _ _ _ r h => by simp [impl_ResiduesOf.l2] at h⟩
  | k + 1 => by
    obtain ⟨ih1, ih2⟩ := impl_ResiduesOf.mono_l k
    refine ⟨?_, ?_⟩
    · intro y0 y1 y2
      rw [impl_ResiduesOf.l1, impl_ResiduesOf.l1]
      exact LeO.ite (LeO.ite (ih2 _ _ _ _ _) (LeO.none _)) (LeO.refl _)
    · intro y0 y1 y2 y3 y4
      rw [impl_ResiduesOf.l2, impl_ResiduesOf.l2]
      exact LeO.ite (LeO.ite (LeO.ite (LeO.bind (impl_swapped.mono _ _ _) (fun _ => LeO.ite (LeO.ite (ih2 _ _ _ _ _) (LeO.ite (ih2 _ _ _ _ _) (LeO.none _))) (LeO.none _))) (LeO.none _)) (LeO.none _)) (ih1 _ _ _)
theorem impl_ResiduesOf.mono : ∀ a0 k, LeO (impl_ResiduesOf.f k a0) (impl_ResiduesOf.f (k + 1) a0) := by
  intro a0 k
  unfold impl_ResiduesOf.f
  exact LeO.bind (impl_IsQuad.mono _ _) (fun _ => LeO.ite (LeO.bind (impl_scale.mono _ _) (fun _ => LeO.ite (LeO.ite ((impl_ResiduesOf.mono_l k).1 _ _ _) (LeO.none _)) (LeO.refl _))) (LeO.refl _))
/-- The start while it is filled. -/
def stS (q : List Int) (i : Nat) : List Int := (q.map (fun n => n % 24)).take i ++ List.replicate (4 - i) 0
theorem stS_len {q : List Int} (hq : q.length = 4) {i : Nat} (hi : i ≤ 4) : (stS q i).length = 4 := by
  simp [stS, hq]
  omega
theorem stS_set {q : List Int} (hq : q.length = 4) {i : Nat} (hi : i < 4) : (stS q i).set i (rd q (i : Int) % 24) = stS q (i + 1) := by
  obtain ⟨a, b, d, e, rfl⟩ := four_of hq
  match i, hi with
  | 0, _ => rfl
  | 1, _ => rfl
  | 2, _ => rfl
  | 3, _ => rfl
theorem stS_all {q : List Int} (hq : q.length = 4) : stS q 4 = q.map (fun n => n % 24) := by
  obtain ⟨a, b, d, e, rfl⟩ := four_of hq
  rfl
set_option maxHeartbeats 1500000 in
set_option maxRecDepth 100000 in
theorem impl_ResiduesOf.calls (k : Nat) (A0 : Option Addr) (c0 : Nat) (l0 : List Int) (r1 : List Int) (r2 : Bool) (w : World) (hr0 : Kd.C (Kd.int .i64) w A0 l0.length l0) (hc0 : l0.length ≤ c0) (h : impl_ResiduesOf.f k l0 = some (r1, r2)) :
    Calls Try.prog 6 #[.slice A0 l0.length c0] w fun e w' => ∃ v0_ : Value, e = .returned (.tuple #[v0_, .bool r2]) ∧ Kd.R (Kd.int .i64) 3 w' w.heap.size (fun _ => True) v0_ r1 ∧ Below w.heap.size w w' := by
  have eg : ∀ args w, (callFunc 17 args).run Try.prog w = .ok (.enter 17 args) w := enters_of Try.func17 (by kernel_rfl) rfl
  have hmm := @run_makeMap Try.prog
  have HR0 := Aside0.mk hr0
  have HC0 := Aside0.mk hc0
  clear hr0 hc0
  have HB := Aside0.mk (Below.refl w.heap.size w)
  have H : ((impl_IsQuad.f k l0).bind fun t1 => (if t1 = true then ((impl_scale.f k l0).bind fun t2 => (if t2 = 1 then (if l0.length = 4 then (impl_ResiduesOf.l1 k [l0.map (fun n => n % 24)] (List.replicate 24 false) 0) else none) else (some (([] : List Int), false)))) else (some (([] : List Int), false)))) = some (r1, r2) := h
  clear h
  replace H := Option.bind_eq_some_iff.mp H
  obtain ⟨t1, A10, H⟩ := H
  have A1 := Aside0.mk A10
  clear A10
  cases t1 with
  | false =>
    rw [if_neg (by decide)] at H
    simp only [Option.some.injEq, Prod.mk.injEq] at H
    obtain ⟨rfl, rfl⟩ := H
    go_enter Try.func6, Try.ntmps6
    go_wp2_with ((with_reducible refine gate_callee (f := 15) rfl ?_); refine goesL_ (some 20) rfl rfl Try.func15 (by kernel_rfl) rfl #[.slice A0 l0.length c0] rfl (by (try simp only [List.map_toArray, List.map_cons, List.map_nil]); first | done | rfl) ?_; refine (impl_IsQuad.calls k _ _ l0 false _ (Kd.C_below HR0.out HB.out) HC0.out A1.out).mono ?_; rintro e w1 ⟨rfl, hb⟩; refine ⟨_, rfl, ?_⟩; have n0_ := Aside0.mk (below_step HB.out hb); clear HB hb; have HB := n0_; clear n0_)
    go_ret2
    exact ⟨_, rfl, Kd.R_nil _ _ _ _ _, HB.out⟩
  | true =>
    rw [if_pos rfl] at H
    replace H := Option.bind_eq_some_iff.mp H
    obtain ⟨t2, A20, H⟩ := H
    have A2 := Aside0.mk A20
    clear A20
    by_cases c1 : t2 = 1
    · rw [if_pos c1] at H
      subst c1
      by_cases c2 : l0.length = 4
      · rw [if_pos c2] at H
        have HL4 := Aside0.mk c2
        clear c2
        have H' := Aside0.mk H
        clear H
        go_enter Try.func6, Try.ntmps6
        go_wp2_with (first
          | ((with_reducible refine gate_callee (f := 15) rfl ?_); refine goesL_ (some 20) rfl rfl Try.func15 (by kernel_rfl) rfl #[.slice A0 l0.length c0] rfl (by (try simp only [List.map_toArray, List.map_cons, List.map_nil]); first | done | rfl) ?_; refine (impl_IsQuad.calls k _ _ l0 true _ (Kd.C_below HR0.out HB.out) HC0.out A1.out).mono ?_; rintro e w1 ⟨rfl, hb⟩; refine ⟨_, rfl, ?_⟩; have n0_ := Aside0.mk (below_step HB.out hb); clear HB hb; have HB := n0_; clear n0_)
          | (go_at_call 16; refine (impl_scale.calls k _ _ l0 1 _ (Kd.C_below HR0.out HB.out) HC0.out A2.out).mono ?_; rintro e w2 ⟨rfl, hb⟩; have n0_ := Aside0.mk (below_step HB.out hb); clear HB hb; have HB := n0_; clear n0_)
          | ((with_reducible refine gate_dst (N := 5) rfl ?_); refine box_event ?hg (N := 5) ?hd (cs := #[.int .i64 0, .int .i64 0, .int .i64 0, .int .i64 0]) (t := 34) ?hr ?_; (case hd => rfl); (case hg => rfl); (case hr => first | (go_simp; done) | (go_simp; rfl)); intro gs hg w3 hbox hb; have HA := Aside0.mk (show ArrAt w3 gs [0, 0, 0, 0] from hbox); have GS := Aside0.mk (show w.heap.size ≤ gs by rw [hg]; exact below_size HB.out); have n0_ := Aside0.mk (below_step HB.out hb); clear HB hb hbox hg; have HB := n0_; clear n0_)
          | ((with_reducible refine gate_store (t := 34) (p := 5) rfl ?_); refine arr_store rfl _ _ _ rfl rfl gs #[.int .i64 0, .int .i64 0, .int .i64 0, .int .i64 0] #[.int .i64 0, .int .i64 0, .int .i64 0, .int .i64 0] rfl rfl 34 HA.out size34 rfl (nums_one [0, 0, 0, 0]) ?_; intro w4 h1_ h2_ h3_ h4_ h5_ h6_; have n0_ := Aside0.mk (show Below w.heap.size w w4 from ⟨h4_.trans HB.out.os, h5_.trans HB.out.tape, h6_.trans HB.out.output, by have := HB.out.size; omega, fun k hk => (h2_ k (by have := GS.out; omega)).trans (HB.out.block k hk)⟩); have n1_ := Aside0.mk (show ArrAt w4 gs [0, 0, 0, 0] from h1_); clear h1_ h2_ h3_ h4_ h5_ h6_ HA HB; have HB := n0_; have HA := n1_; clear n0_ n1_))
        go_loopg [30] 4 (fun gq v30 wr => ∃ i : Nat, v30 = .int .i64 (i : Int) ∧ i + gq = 4 ∧ Aside0 (ArrAt wr gs (stS l0 i)) ∧ Aside0 (Below w.heap.size w wr))
        case atStart => exact ⟨0, rfl, by omega, HA, HB⟩
        case round =>
          clear HA HB
          obtain ⟨i, rfl, hig, HA, HB⟩ := hrel
          cases gk with
          | succ g1 =>
            have hlt : decide ((i : Int) < (l0.length : Int)) = true := decide_eq_true (by have := HL4.out; omega)
            obtain ⟨ad1, e1, hx1⟩ := Kd.at_int (Kd.C_below HR0.out HB.out) (i : Int) (by omega) (by have := HL4.out; omega)
            cases e1
            rw [Int.toNat_natCast] at hx1
            have hi2 : (0 ≤ (i : Int)) = True := eq_true (by omega)
            have hi3 : ((i : Int) < (l0.length : Int)) = True := eq_true (by have := HL4.out; omega)
            have hi4 : ((i : Int) < 4) = True := eq_true (by omega)
            go_wp2_with (first
              | (go_at_fn 17; refine (resMod.calls (rd l0 i) _).mono ?_; rintro e w6 ⟨rfl, hd⟩; have hb := Drawn0.below hd; have n0_ := Aside0.mk (below_step HB.out hb); have n1_ := Aside0.mk (show ArrAt w6 gs (stS l0 i) from blk_below HA.out hb); clear HB HA hb hd; have HB := n0_; have HA := n1_; clear n0_ n1_; have hcs : w6.cell? ⟨gs, i, none⟩ = some (.int .i64 ((stS l0 i).getD i 0)) := HA.out.cell _ _ (by have := stS_len HL4.out (i := i) (by omega); simp [List.getD_eq_getElem?_getD, List.getElem?_eq_getElem (show i < (stS l0 i).length by omega)]); have hfs := blk_frozen (show w6.heap[gs]? = some (Obj.cells (nums .i64 (stS l0 i)).toArray 34 (0, 0)) from HA.out) i)
              | ((with_reducible refine gate_store (t := 3) (p := 39) rfl ?_); refine store_event (t := 3) (p := 39) (v := ?vo_) (w1 := (w6.setCell ⟨gs, i, none⟩ (.int .i64 (rd l0 i % 24)))) ?hg ?ho ?hn ?hr ?_; (case ho => rfl); (case hg => rfl); (case hn => rfl); (case hr => first | (go_simp; done) | (go_simp; rfl)); intro w7 hw; have n0_ := Aside0.mk (show Below w.heap.size w w7 by rw [hw]; exact below_set HB.out GS.out); have n1_ := Aside0.mk (show ArrAt w7 gs (stS l0 (i + 1)) by { rw [hw, ← stS_set HL4.out (show i < 4 by omega)]; have h1 := blk_set (show w6.heap[gs]? = some (Obj.cells (nums .i64 (stS l0 i)).toArray 34 (0, 0)) from HA.out) i (.int .i64 (rd l0 i % 24)); rw [List.setIfInBounds_toArray, show (nums .i64 (stS l0 i)).set i (.int .i64 (rd l0 i % 24)) = nums .i64 ((stS l0 i).set i (rd l0 i % 24)) by simp [nums, List.map_set]] at h1; exact h1 }); clear HB HA hw hcs hfs; have HB := n0_; have HA := n1_; clear n0_ n1_))
            go_roundg g1
            case measure => omega
            case rel => exact ⟨i + 1, by first | rfl | go_num, by omega, HA, HB⟩
          | zero =>
            obtain rfl : i = 4 := by omega
            have hlt : decide ((4 : Int) < (l0.length : Int)) = false := decide_eq_false (by have := HL4.out; omega)
            rw [stS_all HL4.out] at HA
            have hl5 : (l0.map (fun n => n % 24)).length = 4 := by rw [List.length_map]; exact HL4.out
            generalize l0.map (fun n => n % 24) = st at HA H' hl5
            obtain ⟨z0, z1, z2, z3, rfl⟩ := four_of hl5
            clear hl5
            go_wp2_with fail
            refine start_ (n := 11) (S := fun w' => ArrAt w' gs [z0, z1, z2, z3]) (ds := []) #[false, false, false, false, false, false, false, false, false, false, false] (by kernel_rfl) rfl rfl HA.out (fun hHeld => ?_)
            have HP := Aside0.mk (show Pk w gs [z0, z1, z2, z3] none none none (World.drew _) from ⟨below_drew1 HB.out, hHeld, fun v hv => by simp at hv, fun b f hm => by simp at hm, fun x hx => by simp at hx⟩)
            generalize hw2_ : World.drew _ = w9 at hHeld HP ⊢
            clear hw2_ HA HB GS
            refine take_ (i := 0) (N := some 41) (v := ?_) (a' := ?_) #[true, false, false, false, false, false, false, false, false, false, false] rfl rfl (by kernel_rfl) (fun _ _ _ h => h) (Or.inl ⟨by rfl, ?_⟩) hHeld ?_ ?_
            rotate_left
            · intro w' s_
              have s0 : w'.cell? ⟨gs, 0, none⟩ = some (.int .i64 z0) := s_.cell 0 _ rfl; have s1 : w'.cell? ⟨gs, 1, none⟩ = some (.int .i64 z1) := s_.cell 1 _ rfl; have s2 : w'.cell? ⟨gs, 2, none⟩ = some (.int .i64 z2) := s_.cell 2 _ rfl; have s3 : w'.cell? ⟨gs, 3, none⟩ = some (.int .i64 z3) := s_.cell 3 _ rfl
              go_simp
              with_reducible rfl
            rotate_left
            · simp only [Act.put, List.setIfInBounds_toArray, List.set_cons_zero, List.set_cons_succ, i64_w, i32_w]
              rfl
            refine take_ (i := 3) (N := some 44) (v := ?_) (a' := ?_) #[true, false, false, true, false, false, false, false, false, false, false] rfl rfl (by kernel_rfl) (fun _ _ _ h => h) (Or.inl ⟨by rfl, ?_⟩) hHeld ?_ ?_
            rotate_left
            · intro w' s_
              have s0 : w'.cell? ⟨gs, 0, none⟩ = some (.int .i64 z0) := s_.cell 0 _ rfl; have s1 : w'.cell? ⟨gs, 1, none⟩ = some (.int .i64 z1) := s_.cell 1 _ rfl; have s2 : w'.cell? ⟨gs, 2, none⟩ = some (.int .i64 z2) := s_.cell 2 _ rfl; have s3 : w'.cell? ⟨gs, 3, none⟩ = some (.int .i64 z3) := s_.cell 3 _ rfl
              go_simp
              with_reducible rfl
            rotate_left
            · simp only [Act.put, List.setIfInBounds_toArray, List.set_cons_zero, List.set_cons_succ, i64_w, i32_w]
              rfl
            refine pure_ (i := 6) (N := some 46) (v := ?_) (a' := ?_) #[true, false, false, true, false, false, true, false, false, false, false] rfl rfl (by kernel_rfl) (fun _ _ _ h => h) (Or.inl ⟨by rfl, ?_⟩) ?_ ?_
            rotate_left
            · intro w'
              go_simp
              with_reducible rfl
            rotate_left
            · simp only [Act.put, List.setIfInBounds_toArray, List.set_cons_zero, List.set_cons_succ, i64_w, i32_w]
              rfl
            refine join_ (σ := Value × Nat × Nat) 2 #[true, true, true, true, true, true, true, true, true, false, false] (fun s_ => [(42, s_.1), (43, .map (some s_.2.1)), (10, .pointer (some ⟨s_.2.2, 0, none⟩)), (45, .map (some s_.2.1)), (8, s_.1)]) (fun s_ w' => Pk w gs [z0, z1, z2, z3] (some s_.1) (some (s_.2.1, true)) (some s_.2.2) w') ?_ ?_
            rotate_left
            · intro hCont
              refine three_ (i := 1) (j := 2) (k := 7) (Ni := some 42) (Nj := some 43) (Nk := some 10) #[true, true, false, true, false, false, true, false, false, false, false] #[true, false, true, true, false, false, true, false, false, false, false] #[true, false, false, true, false, false, true, true, false, false, false] rfl rfl rfl rfl rfl rfl (by kernel_rfl) (by decide) (by decide) (by decide) (fun K hK => ?_) (fun K hK => ?_) (fun K hK => ?_)
              · skip
                refine Kd.R_lit_step kA _ 34 ?hg (N := 42) ?hd (xs := [[z0, z1, z2, z3]]) (inner := [.int .i64 z0, .int .i64 z1, .int .i64 z2, .int .i64 z3]) (ok := fun _ => True) (okp := fun _ => True) ?hr ?hp (fun _ hk => hk) trivial (Below.refl _ _) (Nat.le_refl _) (by simp) ?_; (case hd => rfl); (case hg => rfl); (case hr => first | (go_simp; done) | (go_simp; rfl)); (case hp => exact kA_one _ _ _ _ rfl)
                intro v42 w10 ho hb hg_ hnew_
                have n0_ := Aside0.mk (HP.out.setq ho hb)
                clear HP ho hb hg_ hnew_
                have HP := n0_
                clear n0_
                refine hK.out _ _ HP.out.2.1 (fun hHeld => ?_)
                clear hK K
                refine norm_ (a' := ?_) ?_ ?_
                rotate_left
                · show Act.put _ (some 42) _ = _
                  simp only [Act.put, List.setIfInBounds_toArray, List.set_cons_zero, List.set_cons_succ, i64_w, i32_w]
                  rfl
                refine two_ (i := 2) (j := 7) (Ni := some 43) (Nj := some 10) #[true, true, true, true, false, false, true, false, false, false, false] #[true, true, false, true, false, false, true, true, false, false, false] rfl rfl rfl rfl (by kernel_rfl) (by decide) (by decide) (fun K hK => ?_) (fun K hK => ?_)
                · skip
                  refine event_step (by rfl) (v := .map (some (World.heap w10).size)) (w1 := World.alloc w10 (.map #[] 0)) (by first | (go_simp; done) | (go_simp; rfl)) ?_
                  have n0_ := Aside0.mk HP.out.setm
                  clear HP
                  have HP := n0_
                  clear n0_
                  refine hK.out _ _ HP.out.2.1 (fun hHeld => ?_)
                  clear hK K
                  refine norm_ (a' := ?_) ?_ ?_
                  rotate_left
                  · show Act.put _ (some 43) _ = _
                    simp only [Act.put, List.setIfInBounds_toArray, List.set_cons_zero, List.set_cons_succ, i64_w, i32_w]
                    rfl
                  generalize World.alloc w10 (Obj.map #[] 0) = w11 at hHeld HP ⊢
                  generalize (World.heap w10).size = bm at HP ⊢
                  refine two_ (i := 4) (j := 7) (Ni := none) (Nj := some 10) #[true, true, true, true, true, false, true, false, false, false, false] #[true, true, true, true, false, false, true, true, false, false, false] rfl rfl rfl rfl (by kernel_rfl) (by decide) (by decide) (fun K hK => ?_) (fun K hK => ?_)
                  · skip
                    obtain ⟨w12, hup, hput⟩ := HP.out.put rfl
                    replace hup : (Instr.mapUpdate 36 (.map (some bm)) (.agg #[.int .i64 z0, .int .i64 z1, .int .i64 z2, .int .i64 z3]) (.bool true)).run Try.prog _ = .ok () w12 := hup
                    refine skip_step (w1 := w12) (by rfl) rfl (by first | (go_simp; done) | (go_simp; rfl)) ?_
                    have n0_ := Aside0.mk hput
                    clear HP hup hput
                    have HP := n0_
                    clear n0_
                    refine hK.out _ _ HP.out.2.1 (fun hHeld => ?_)
                    clear hK K
                    refine pure_ (i := 5) (N := some 45) (v := ?_) (a' := ?_) #[true, true, true, true, true, true, true, false, false, false, false] rfl rfl (by kernel_rfl) (fun _ _ _ h => h) (Or.inl ⟨by rfl, ?_⟩) ?_ ?_
                    rotate_left
                    · intro w'
                      go_simp
                      with_reducible rfl
                    rotate_left
                    · simp only [Act.put, List.setIfInBounds_toArray, List.set_cons_zero, List.set_cons_succ, i64_w, i32_w]
                      rfl
                    refine one_ (i := 7) (N := some 10) #[true, true, true, true, true, true, true, true, false, false, false] rfl rfl (by kernel_rfl) (by decide) (fun K hK => ?_)
                    refine box_step ?hg (N := 10) ?hd (cs := #[.bool false, .bool false, .bool false, .bool false, .bool false, .bool false, .bool false, .bool false, .bool false, .bool false, .bool false, .bool false, .bool false, .bool false, .bool false, .bool false, .bool false, .bool false, .bool false, .bool false, .bool false, .bool false, .bool false, .bool false]) (t := 37) ?hr ?_; (case hd => rfl); (case hg => rfl); (case hr => first | (go_simp; done) | (go_simp; rfl))
                    intro gh hg_ w13 hbox hb
                    have n0_ := Aside0.mk (HP.out.setg hg_ hbox hb)
                    clear HP hg_ hbox hb
                    have HP := n0_
                    clear n0_
                    refine hK.out _ _ HP.out.2.1 (fun hHeld => ?_)
                    clear hK K
                    refine norm_ (a' := ?_) ?_ ?_
                    rotate_left
                    · show Act.put _ (some 10) _ = _
                      simp only [Act.put, List.setIfInBounds_toArray, List.set_cons_zero, List.set_cons_succ, i64_w, i32_w]
                      rfl
                    refine pure_ (i := 8) (N := some 8) (v := ?_) (a' := ?_) #[true, true, true, true, true, true, true, true, true, false, false] rfl rfl (by kernel_rfl) (fun _ _ _ h => h) (Or.inl ⟨by rfl, ?_⟩) ?_ ?_
                    rotate_left
                    · intro w'
                      go_simp
                      with_reducible rfl
                    rotate_left
                    · simp only [Act.put, List.setIfInBounds_toArray, List.set_cons_zero, List.set_cons_succ, i64_w, i32_w]
                      rfl
                    exact norm_ (by simp only [putAll, Act.put, List.setIfInBounds_toArray, List.set_cons_zero, List.set_cons_succ]) (hCont (v42, bm, gh) _ HP.out)
                  · skip
                    refine box_step ?hg (N := 10) ?hd (cs := #[.bool false, .bool false, .bool false, .bool false, .bool false, .bool false, .bool false, .bool false, .bool false, .bool false, .bool false, .bool false, .bool false, .bool false, .bool false, .bool false, .bool false, .bool false, .bool false, .bool false, .bool false, .bool false, .bool false, .bool false]) (t := 37) ?hr ?_; (case hd => rfl); (case hg => rfl); (case hr => first | (go_simp; done) | (go_simp; rfl))
                    intro gh hg_ w12 hbox hb
                    have n0_ := Aside0.mk (HP.out.setg hg_ hbox hb)
                    clear HP hg_ hbox hb
                    have HP := n0_
                    clear n0_
                    refine hK.out _ _ HP.out.2.1 (fun hHeld => ?_)
                    clear hK K
                    refine norm_ (a' := ?_) ?_ ?_
                    rotate_left
                    · show Act.put _ (some 10) _ = _
                      simp only [Act.put, List.setIfInBounds_toArray, List.set_cons_zero, List.set_cons_succ, i64_w, i32_w]
                      rfl
                    refine pure_ (i := 8) (N := some 8) (v := ?_) (a' := ?_) #[true, true, true, true, false, false, true, true, true, false, false] rfl rfl (by kernel_rfl) (fun _ _ _ h => h) (Or.inl ⟨by rfl, ?_⟩) ?_ ?_
                    rotate_left
                    · intro w'
                      go_simp
                      with_reducible rfl
                    rotate_left
                    · simp only [Act.put, List.setIfInBounds_toArray, List.set_cons_zero, List.set_cons_succ, i64_w, i32_w]
                      rfl
                    refine one_ (i := 4) (N := none) #[true, true, true, true, true, false, true, true, true, false, false] rfl rfl (by kernel_rfl) (by decide) (fun K hK => ?_)
                    obtain ⟨w13, hup, hput⟩ := HP.out.put rfl
                    replace hup : (Instr.mapUpdate 36 (.map (some bm)) (.agg #[.int .i64 z0, .int .i64 z1, .int .i64 z2, .int .i64 z3]) (.bool true)).run Try.prog _ = .ok () w13 := hup
                    refine skip_step (w1 := w13) (by rfl) rfl (by first | (go_simp; done) | (go_simp; rfl)) ?_
                    have n0_ := Aside0.mk hput
                    clear HP hup hput
                    have HP := n0_
                    clear n0_
                    refine hK.out _ _ HP.out.2.1 (fun hHeld => ?_)
                    clear hK K
                    refine pure_ (i := 5) (N := some 45) (v := ?_) (a' := ?_) #[true, true, true, true, true, true, true, true, true, false, false] rfl rfl (by kernel_rfl) (fun _ _ _ h => h) (Or.inl ⟨by rfl, ?_⟩) ?_ ?_
                    rotate_left
                    · intro w'
                      go_simp
                      with_reducible rfl
                    rotate_left
                    · simp only [Act.put, List.setIfInBounds_toArray, List.set_cons_zero, List.set_cons_succ, i64_w, i32_w]
                      rfl
                    exact norm_ (by simp only [putAll, Act.put, List.setIfInBounds_toArray, List.set_cons_zero, List.set_cons_succ]) (hCont (v42, bm, gh) _ HP.out)
                · skip
                  refine box_step ?hg (N := 10) ?hd (cs := #[.bool false, .bool false, .bool false, .bool false, .bool false, .bool false, .bool false, .bool false, .bool false, .bool false, .bool false, .bool false, .bool false, .bool false, .bool false, .bool false, .bool false, .bool false, .bool false, .bool false, .bool false, .bool false, .bool false, .bool false]) (t := 37) ?hr ?_; (case hd => rfl); (case hg => rfl); (case hr => first | (go_simp; done) | (go_simp; rfl))
                  intro gh hg_ w11 hbox hb
                  have n0_ := Aside0.mk (HP.out.setg hg_ hbox hb)
                  clear HP hg_ hbox hb
                  have HP := n0_
                  clear n0_
                  refine hK.out _ _ HP.out.2.1 (fun hHeld => ?_)
                  clear hK K
                  refine norm_ (a' := ?_) ?_ ?_
                  rotate_left
                  · show Act.put _ (some 10) _ = _
                    simp only [Act.put, List.setIfInBounds_toArray, List.set_cons_zero, List.set_cons_succ, i64_w, i32_w]
                    rfl
                  refine pure_ (i := 8) (N := some 8) (v := ?_) (a' := ?_) #[true, true, false, true, false, false, true, true, true, false, false] rfl rfl (by kernel_rfl) (fun _ _ _ h => h) (Or.inl ⟨by rfl, ?_⟩) ?_ ?_
                  rotate_left
                  · intro w'
                    go_simp
                    with_reducible rfl
                  rotate_left
                  · simp only [Act.put, List.setIfInBounds_toArray, List.set_cons_zero, List.set_cons_succ, i64_w, i32_w]
                    rfl
                  refine one_ (i := 2) (N := some 43) #[true, true, true, true, false, false, true, true, true, false, false] rfl rfl (by kernel_rfl) (by decide) (fun K hK => ?_)
                  refine event_step (by rfl) (v := .map (some (World.heap w11).size)) (w1 := World.alloc w11 (.map #[] 0)) (by first | (go_simp; done) | (go_simp; rfl)) ?_
                  have n0_ := Aside0.mk HP.out.setm
                  clear HP
                  have HP := n0_
                  clear n0_
                  refine hK.out _ _ HP.out.2.1 (fun hHeld => ?_)
                  clear hK K
                  refine norm_ (a' := ?_) ?_ ?_
                  rotate_left
                  · show Act.put _ (some 43) _ = _
                    simp only [Act.put, List.setIfInBounds_toArray, List.set_cons_zero, List.set_cons_succ, i64_w, i32_w]
                    rfl
                  generalize World.alloc w11 (Obj.map #[] 0) = w12 at hHeld HP ⊢
                  generalize (World.heap w11).size = bm at HP ⊢
                  refine one_ (i := 4) (N := none) #[true, true, true, true, true, false, true, true, true, false, false] rfl rfl (by kernel_rfl) (by decide) (fun K hK => ?_)
                  obtain ⟨w13, hup, hput⟩ := HP.out.put rfl
                  replace hup : (Instr.mapUpdate 36 (.map (some bm)) (.agg #[.int .i64 z0, .int .i64 z1, .int .i64 z2, .int .i64 z3]) (.bool true)).run Try.prog _ = .ok () w13 := hup
                  refine skip_step (w1 := w13) (by rfl) rfl (by first | (go_simp; done) | (go_simp; rfl)) ?_
                  have n0_ := Aside0.mk hput
                  clear HP hup hput
                  have HP := n0_
                  clear n0_
                  refine hK.out _ _ HP.out.2.1 (fun hHeld => ?_)
                  clear hK K
                  refine pure_ (i := 5) (N := some 45) (v := ?_) (a' := ?_) #[true, true, true, true, true, true, true, true, true, false, false] rfl rfl (by kernel_rfl) (fun _ _ _ h => h) (Or.inl ⟨by rfl, ?_⟩) ?_ ?_
                  rotate_left
                  · intro w'
                    go_simp
                    with_reducible rfl
                  rotate_left
                  · simp only [Act.put, List.setIfInBounds_toArray, List.set_cons_zero, List.set_cons_succ, i64_w, i32_w]
                    rfl
                  exact norm_ (by simp only [putAll, Act.put, List.setIfInBounds_toArray, List.set_cons_zero, List.set_cons_succ]) (hCont (v42, bm, gh) _ HP.out)
              · skip
                refine event_step (by rfl) (v := .map (some (World.heap w9).size)) (w1 := World.alloc w9 (.map #[] 0)) (by first | (go_simp; done) | (go_simp; rfl)) ?_
                have n0_ := Aside0.mk HP.out.setm
                clear HP
                have HP := n0_
                clear n0_
                refine hK.out _ _ HP.out.2.1 (fun hHeld => ?_)
                clear hK K
                refine norm_ (a' := ?_) ?_ ?_
                rotate_left
                · show Act.put _ (some 43) _ = _
                  simp only [Act.put, List.setIfInBounds_toArray, List.set_cons_zero, List.set_cons_succ, i64_w, i32_w]
                  rfl
                generalize World.alloc w9 (Obj.map #[] 0) = w10 at hHeld HP ⊢
                generalize (World.heap w9).size = bm at HP ⊢
                refine three_ (i := 1) (j := 4) (k := 7) (Ni := some 42) (Nj := none) (Nk := some 10) #[true, true, true, true, false, false, true, false, false, false, false] #[true, false, true, true, true, false, true, false, false, false, false] #[true, false, true, true, false, false, true, true, false, false, false] rfl rfl rfl rfl rfl rfl (by kernel_rfl) (by decide) (by decide) (by decide) (fun K hK => ?_) (fun K hK => ?_) (fun K hK => ?_)
                · skip
                  refine Kd.R_lit_step kA _ 34 ?hg (N := 42) ?hd (xs := [[z0, z1, z2, z3]]) (inner := [.int .i64 z0, .int .i64 z1, .int .i64 z2, .int .i64 z3]) (ok := fun _ => True) (okp := fun _ => True) ?hr ?hp (fun _ hk => hk) trivial (Below.refl _ _) (Nat.le_refl _) (by simp) ?_; (case hd => rfl); (case hg => rfl); (case hr => first | (go_simp; done) | (go_simp; rfl)); (case hp => exact kA_one _ _ _ _ rfl)
                  intro v42 w11 ho hb hg_ hnew_
                  have n0_ := Aside0.mk (HP.out.setq ho hb)
                  clear HP ho hb hg_ hnew_
                  have HP := n0_
                  clear n0_
                  refine hK.out _ _ HP.out.2.1 (fun hHeld => ?_)
                  clear hK K
                  refine norm_ (a' := ?_) ?_ ?_
                  rotate_left
                  · show Act.put _ (some 42) _ = _
                    simp only [Act.put, List.setIfInBounds_toArray, List.set_cons_zero, List.set_cons_succ, i64_w, i32_w]
                    rfl
                  refine two_ (i := 4) (j := 7) (Ni := none) (Nj := some 10) #[true, true, true, true, true, false, true, false, false, false, false] #[true, true, true, true, false, false, true, true, false, false, false] rfl rfl rfl rfl (by kernel_rfl) (by decide) (by decide) (fun K hK => ?_) (fun K hK => ?_)
                  · skip
                    obtain ⟨w12, hup, hput⟩ := HP.out.put rfl
                    replace hup : (Instr.mapUpdate 36 (.map (some bm)) (.agg #[.int .i64 z0, .int .i64 z1, .int .i64 z2, .int .i64 z3]) (.bool true)).run Try.prog _ = .ok () w12 := hup
                    refine skip_step (w1 := w12) (by rfl) rfl (by first | (go_simp; done) | (go_simp; rfl)) ?_
                    have n0_ := Aside0.mk hput
                    clear HP hup hput
                    have HP := n0_
                    clear n0_
                    refine hK.out _ _ HP.out.2.1 (fun hHeld => ?_)
                    clear hK K
                    refine pure_ (i := 5) (N := some 45) (v := ?_) (a' := ?_) #[true, true, true, true, true, true, true, false, false, false, false] rfl rfl (by kernel_rfl) (fun _ _ _ h => h) (Or.inl ⟨by rfl, ?_⟩) ?_ ?_
                    rotate_left
                    · intro w'
                      go_simp
                      with_reducible rfl
                    rotate_left
                    · simp only [Act.put, List.setIfInBounds_toArray, List.set_cons_zero, List.set_cons_succ, i64_w, i32_w]
                      rfl
                    refine one_ (i := 7) (N := some 10) #[true, true, true, true, true, true, true, true, false, false, false] rfl rfl (by kernel_rfl) (by decide) (fun K hK => ?_)
                    refine box_step ?hg (N := 10) ?hd (cs := #[.bool false, .bool false, .bool false, .bool false, .bool false, .bool false, .bool false, .bool false, .bool false, .bool false, .bool false, .bool false, .bool false, .bool false, .bool false, .bool false, .bool false, .bool false, .bool false, .bool false, .bool false, .bool false, .bool false, .bool false]) (t := 37) ?hr ?_; (case hd => rfl); (case hg => rfl); (case hr => first | (go_simp; done) | (go_simp; rfl))
                    intro gh hg_ w13 hbox hb
                    have n0_ := Aside0.mk (HP.out.setg hg_ hbox hb)
                    clear HP hg_ hbox hb
                    have HP := n0_
                    clear n0_
                    refine hK.out _ _ HP.out.2.1 (fun hHeld => ?_)
                    clear hK K
                    refine norm_ (a' := ?_) ?_ ?_
                    rotate_left
                    · show Act.put _ (some 10) _ = _
                      simp only [Act.put, List.setIfInBounds_toArray, List.set_cons_zero, List.set_cons_succ, i64_w, i32_w]
                      rfl
                    refine pure_ (i := 8) (N := some 8) (v := ?_) (a' := ?_) #[true, true, true, true, true, true, true, true, true, false, false] rfl rfl (by kernel_rfl) (fun _ _ _ h => h) (Or.inl ⟨by rfl, ?_⟩) ?_ ?_
                    rotate_left
                    · intro w'
                      go_simp
                      with_reducible rfl
                    rotate_left
                    · simp only [Act.put, List.setIfInBounds_toArray, List.set_cons_zero, List.set_cons_succ, i64_w, i32_w]
                      rfl
                    exact norm_ (by simp only [putAll, Act.put, List.setIfInBounds_toArray, List.set_cons_zero, List.set_cons_succ]) (hCont (v42, bm, gh) _ HP.out)
                  · skip
                    refine box_step ?hg (N := 10) ?hd (cs := #[.bool false, .bool false, .bool false, .bool false, .bool false, .bool false, .bool false, .bool false, .bool false, .bool false, .bool false, .bool false, .bool false, .bool false, .bool false, .bool false, .bool false, .bool false, .bool false, .bool false, .bool false, .bool false, .bool false, .bool false]) (t := 37) ?hr ?_; (case hd => rfl); (case hg => rfl); (case hr => first | (go_simp; done) | (go_simp; rfl))
                    intro gh hg_ w12 hbox hb
                    have n0_ := Aside0.mk (HP.out.setg hg_ hbox hb)
                    clear HP hg_ hbox hb
                    have HP := n0_
                    clear n0_
                    refine hK.out _ _ HP.out.2.1 (fun hHeld => ?_)
                    clear hK K
                    refine norm_ (a' := ?_) ?_ ?_
                    rotate_left
                    · show Act.put _ (some 10) _ = _
                      simp only [Act.put, List.setIfInBounds_toArray, List.set_cons_zero, List.set_cons_succ, i64_w, i32_w]
                      rfl
                    refine pure_ (i := 8) (N := some 8) (v := ?_) (a' := ?_) #[true, true, true, true, false, false, true, true, true, false, false] rfl rfl (by kernel_rfl) (fun _ _ _ h => h) (Or.inl ⟨by rfl, ?_⟩) ?_ ?_
                    rotate_left
                    · intro w'
                      go_simp
                      with_reducible rfl
                    rotate_left
                    · simp only [Act.put, List.setIfInBounds_toArray, List.set_cons_zero, List.set_cons_succ, i64_w, i32_w]
                      rfl
                    refine one_ (i := 4) (N := none) #[true, true, true, true, true, false, true, true, true, false, false] rfl rfl (by kernel_rfl) (by decide) (fun K hK => ?_)
                    obtain ⟨w13, hup, hput⟩ := HP.out.put rfl
                    replace hup : (Instr.mapUpdate 36 (.map (some bm)) (.agg #[.int .i64 z0, .int .i64 z1, .int .i64 z2, .int .i64 z3]) (.bool true)).run Try.prog _ = .ok () w13 := hup
                    refine skip_step (w1 := w13) (by rfl) rfl (by first | (go_simp; done) | (go_simp; rfl)) ?_
                    have n0_ := Aside0.mk hput
                    clear HP hup hput
                    have HP := n0_
                    clear n0_
                    refine hK.out _ _ HP.out.2.1 (fun hHeld => ?_)
                    clear hK K
                    refine pure_ (i := 5) (N := some 45) (v := ?_) (a' := ?_) #[true, true, true, true, true, true, true, true, true, false, false] rfl rfl (by kernel_rfl) (fun _ _ _ h => h) (Or.inl ⟨by rfl, ?_⟩) ?_ ?_
                    rotate_left
                    · intro w'
                      go_simp
                      with_reducible rfl
                    rotate_left
                    · simp only [Act.put, List.setIfInBounds_toArray, List.set_cons_zero, List.set_cons_succ, i64_w, i32_w]
                      rfl
                    exact norm_ (by simp only [putAll, Act.put, List.setIfInBounds_toArray, List.set_cons_zero, List.set_cons_succ]) (hCont (v42, bm, gh) _ HP.out)
                · skip
                  obtain ⟨w11, hup, hput⟩ := HP.out.put rfl
                  replace hup : (Instr.mapUpdate 36 (.map (some bm)) (.agg #[.int .i64 z0, .int .i64 z1, .int .i64 z2, .int .i64 z3]) (.bool true)).run Try.prog _ = .ok () w11 := hup
                  refine skip_step (w1 := w11) (by rfl) rfl (by first | (go_simp; done) | (go_simp; rfl)) ?_
                  have n0_ := Aside0.mk hput
                  clear HP hup hput
                  have HP := n0_
                  clear n0_
                  refine hK.out _ _ HP.out.2.1 (fun hHeld => ?_)
                  clear hK K
                  refine pure_ (i := 5) (N := some 45) (v := ?_) (a' := ?_) #[true, false, true, true, true, true, true, false, false, false, false] rfl rfl (by kernel_rfl) (fun _ _ _ h => h) (Or.inl ⟨by rfl, ?_⟩) ?_ ?_
                  rotate_left
                  · intro w'
                    go_simp
                    with_reducible rfl
                  rotate_left
                  · simp only [Act.put, List.setIfInBounds_toArray, List.set_cons_zero, List.set_cons_succ, i64_w, i32_w]
                    rfl
                  refine two_ (i := 1) (j := 7) (Ni := some 42) (Nj := some 10) #[true, true, true, true, true, true, true, false, false, false, false] #[true, false, true, true, true, true, true, true, false, false, false] rfl rfl rfl rfl (by kernel_rfl) (by decide) (by decide) (fun K hK => ?_) (fun K hK => ?_)
                  · skip
                    refine Kd.R_lit_step kA _ 34 ?hg (N := 42) ?hd (xs := [[z0, z1, z2, z3]]) (inner := [.int .i64 z0, .int .i64 z1, .int .i64 z2, .int .i64 z3]) (ok := fun _ => True) (okp := fun _ => True) ?hr ?hp (fun _ hk => hk) trivial (Below.refl _ _) (Nat.le_refl _) (by simp) ?_; (case hd => rfl); (case hg => rfl); (case hr => first | (go_simp; done) | (go_simp; rfl)); (case hp => exact kA_one _ _ _ _ rfl)
                    intro v42 w12 ho hb hg_ hnew_
                    have n0_ := Aside0.mk (HP.out.setq ho hb)
                    clear HP ho hb hg_ hnew_
                    have HP := n0_
                    clear n0_
                    refine hK.out _ _ HP.out.2.1 (fun hHeld => ?_)
                    clear hK K
                    refine norm_ (a' := ?_) ?_ ?_
                    rotate_left
                    · show Act.put _ (some 42) _ = _
                      simp only [Act.put, List.setIfInBounds_toArray, List.set_cons_zero, List.set_cons_succ, i64_w, i32_w]
                      rfl
                    refine one_ (i := 7) (N := some 10) #[true, true, true, true, true, true, true, true, false, false, false] rfl rfl (by kernel_rfl) (by decide) (fun K hK => ?_)
                    refine box_step ?hg (N := 10) ?hd (cs := #[.bool false, .bool false, .bool false, .bool false, .bool false, .bool false, .bool false, .bool false, .bool false, .bool false, .bool false, .bool false, .bool false, .bool false, .bool false, .bool false, .bool false, .bool false, .bool false, .bool false, .bool false, .bool false, .bool false, .bool false]) (t := 37) ?hr ?_; (case hd => rfl); (case hg => rfl); (case hr => first | (go_simp; done) | (go_simp; rfl))
                    intro gh hg_ w13 hbox hb
                    have n0_ := Aside0.mk (HP.out.setg hg_ hbox hb)
                    clear HP hg_ hbox hb
                    have HP := n0_
                    clear n0_
                    refine hK.out _ _ HP.out.2.1 (fun hHeld => ?_)
                    clear hK K
                    refine norm_ (a' := ?_) ?_ ?_
                    rotate_left
                    · show Act.put _ (some 10) _ = _
                      simp only [Act.put, List.setIfInBounds_toArray, List.set_cons_zero, List.set_cons_succ, i64_w, i32_w]
                      rfl
                    refine pure_ (i := 8) (N := some 8) (v := ?_) (a' := ?_) #[true, true, true, true, true, true, true, true, true, false, false] rfl rfl (by kernel_rfl) (fun _ _ _ h => h) (Or.inl ⟨by rfl, ?_⟩) ?_ ?_
                    rotate_left
                    · intro w'
                      go_simp
                      with_reducible rfl
                    rotate_left
                    · simp only [Act.put, List.setIfInBounds_toArray, List.set_cons_zero, List.set_cons_succ, i64_w, i32_w]
                      rfl
                    exact norm_ (by simp only [putAll, Act.put, List.setIfInBounds_toArray, List.set_cons_zero, List.set_cons_succ]) (hCont (v42, bm, gh) _ HP.out)
                  · skip
                    refine box_step ?hg (N := 10) ?hd (cs := #[.bool false, .bool false, .bool false, .bool false, .bool false, .bool false, .bool false, .bool false, .bool false, .bool false, .bool false, .bool false, .bool false, .bool false, .bool false, .bool false, .bool false, .bool false, .bool false, .bool false, .bool false, .bool false, .bool false, .bool false]) (t := 37) ?hr ?_; (case hd => rfl); (case hg => rfl); (case hr => first | (go_simp; done) | (go_simp; rfl))
                    intro gh hg_ w12 hbox hb
                    have n0_ := Aside0.mk (HP.out.setg hg_ hbox hb)
                    clear HP hg_ hbox hb
                    have HP := n0_
                    clear n0_
                    refine hK.out _ _ HP.out.2.1 (fun hHeld => ?_)
                    clear hK K
                    refine norm_ (a' := ?_) ?_ ?_
                    rotate_left
                    · show Act.put _ (some 10) _ = _
                      simp only [Act.put, List.setIfInBounds_toArray, List.set_cons_zero, List.set_cons_succ, i64_w, i32_w]
                      rfl
                    refine one_ (i := 1) (N := some 42) #[true, true, true, true, true, true, true, true, false, false, false] rfl rfl (by kernel_rfl) (by decide) (fun K hK => ?_)
                    refine Kd.R_lit_step kA _ 34 ?hg (N := 42) ?hd (xs := [[z0, z1, z2, z3]]) (inner := [.int .i64 z0, .int .i64 z1, .int .i64 z2, .int .i64 z3]) (ok := fun _ => True) (okp := fun _ => True) ?hr ?hp (fun _ hk => hk) trivial (Below.refl _ _) (Nat.le_refl _) (by simp) ?_; (case hd => rfl); (case hg => rfl); (case hr => first | (go_simp; done) | (go_simp; rfl)); (case hp => exact kA_one _ _ _ _ rfl)
                    intro v42 w13 ho hb hg_ hnew_
                    have n0_ := Aside0.mk (HP.out.setq ho hb)
                    clear HP ho hb hg_ hnew_
                    have HP := n0_
                    clear n0_
                    refine hK.out _ _ HP.out.2.1 (fun hHeld => ?_)
                    clear hK K
                    refine norm_ (a' := ?_) ?_ ?_
                    rotate_left
                    · show Act.put _ (some 42) _ = _
                      simp only [Act.put, List.setIfInBounds_toArray, List.set_cons_zero, List.set_cons_succ, i64_w, i32_w]
                      rfl
                    refine pure_ (i := 8) (N := some 8) (v := ?_) (a' := ?_) #[true, true, true, true, true, true, true, true, true, false, false] rfl rfl (by kernel_rfl) (fun _ _ _ h => h) (Or.inl ⟨by rfl, ?_⟩) ?_ ?_
                    rotate_left
                    · intro w'
                      go_simp
                      with_reducible rfl
                    rotate_left
                    · simp only [Act.put, List.setIfInBounds_toArray, List.set_cons_zero, List.set_cons_succ, i64_w, i32_w]
                      rfl
                    exact norm_ (by simp only [putAll, Act.put, List.setIfInBounds_toArray, List.set_cons_zero, List.set_cons_succ]) (hCont (v42, bm, gh) _ HP.out)
                · skip
                  refine box_step ?hg (N := 10) ?hd (cs := #[.bool false, .bool false, .bool false, .bool false, .bool false, .bool false, .bool false, .bool false, .bool false, .bool false, .bool false, .bool false, .bool false, .bool false, .bool false, .bool false, .bool false, .bool false, .bool false, .bool false, .bool false, .bool false, .bool false, .bool false]) (t := 37) ?hr ?_; (case hd => rfl); (case hg => rfl); (case hr => first | (go_simp; done) | (go_simp; rfl))
                  intro gh hg_ w11 hbox hb
                  have n0_ := Aside0.mk (HP.out.setg hg_ hbox hb)
                  clear HP hg_ hbox hb
                  have HP := n0_
                  clear n0_
                  refine hK.out _ _ HP.out.2.1 (fun hHeld => ?_)
                  clear hK K
                  refine norm_ (a' := ?_) ?_ ?_
                  rotate_left
                  · show Act.put _ (some 10) _ = _
                    simp only [Act.put, List.setIfInBounds_toArray, List.set_cons_zero, List.set_cons_succ, i64_w, i32_w]
                    rfl
                  refine two_ (i := 1) (j := 4) (Ni := some 42) (Nj := none) #[true, true, true, true, false, false, true, true, false, false, false] #[true, false, true, true, true, false, true, true, false, false, false] rfl rfl rfl rfl (by kernel_rfl) (by decide) (by decide) (fun K hK => ?_) (fun K hK => ?_)
                  · skip
                    refine Kd.R_lit_step kA _ 34 ?hg (N := 42) ?hd (xs := [[z0, z1, z2, z3]]) (inner := [.int .i64 z0, .int .i64 z1, .int .i64 z2, .int .i64 z3]) (ok := fun _ => True) (okp := fun _ => True) ?hr ?hp (fun _ hk => hk) trivial (Below.refl _ _) (Nat.le_refl _) (by simp) ?_; (case hd => rfl); (case hg => rfl); (case hr => first | (go_simp; done) | (go_simp; rfl)); (case hp => exact kA_one _ _ _ _ rfl)
                    intro v42 w12 ho hb hg_ hnew_
                    have n0_ := Aside0.mk (HP.out.setq ho hb)
                    clear HP ho hb hg_ hnew_
                    have HP := n0_
                    clear n0_
                    refine hK.out _ _ HP.out.2.1 (fun hHeld => ?_)
                    clear hK K
                    refine norm_ (a' := ?_) ?_ ?_
                    rotate_left
                    · show Act.put _ (some 42) _ = _
                      simp only [Act.put, List.setIfInBounds_toArray, List.set_cons_zero, List.set_cons_succ, i64_w, i32_w]
                      rfl
                    refine pure_ (i := 8) (N := some 8) (v := ?_) (a' := ?_) #[true, true, true, true, false, false, true, true, true, false, false] rfl rfl (by kernel_rfl) (fun _ _ _ h => h) (Or.inl ⟨by rfl, ?_⟩) ?_ ?_
                    rotate_left
                    · intro w'
                      go_simp
                      with_reducible rfl
                    rotate_left
                    · simp only [Act.put, List.setIfInBounds_toArray, List.set_cons_zero, List.set_cons_succ, i64_w, i32_w]
                      rfl
                    refine one_ (i := 4) (N := none) #[true, true, true, true, true, false, true, true, true, false, false] rfl rfl (by kernel_rfl) (by decide) (fun K hK => ?_)
                    obtain ⟨w13, hup, hput⟩ := HP.out.put rfl
                    replace hup : (Instr.mapUpdate 36 (.map (some bm)) (.agg #[.int .i64 z0, .int .i64 z1, .int .i64 z2, .int .i64 z3]) (.bool true)).run Try.prog _ = .ok () w13 := hup
                    refine skip_step (w1 := w13) (by rfl) rfl (by first | (go_simp; done) | (go_simp; rfl)) ?_
                    have n0_ := Aside0.mk hput
                    clear HP hup hput
                    have HP := n0_
                    clear n0_
                    refine hK.out _ _ HP.out.2.1 (fun hHeld => ?_)
                    clear hK K
                    refine pure_ (i := 5) (N := some 45) (v := ?_) (a' := ?_) #[true, true, true, true, true, true, true, true, true, false, false] rfl rfl (by kernel_rfl) (fun _ _ _ h => h) (Or.inl ⟨by rfl, ?_⟩) ?_ ?_
                    rotate_left
                    · intro w'
                      go_simp
                      with_reducible rfl
                    rotate_left
                    · simp only [Act.put, List.setIfInBounds_toArray, List.set_cons_zero, List.set_cons_succ, i64_w, i32_w]
                      rfl
                    exact norm_ (by simp only [putAll, Act.put, List.setIfInBounds_toArray, List.set_cons_zero, List.set_cons_succ]) (hCont (v42, bm, gh) _ HP.out)
                  · skip
                    obtain ⟨w12, hup, hput⟩ := HP.out.put rfl
                    replace hup : (Instr.mapUpdate 36 (.map (some bm)) (.agg #[.int .i64 z0, .int .i64 z1, .int .i64 z2, .int .i64 z3]) (.bool true)).run Try.prog _ = .ok () w12 := hup
                    refine skip_step (w1 := w12) (by rfl) rfl (by first | (go_simp; done) | (go_simp; rfl)) ?_
                    have n0_ := Aside0.mk hput
                    clear HP hup hput
                    have HP := n0_
                    clear n0_
                    refine hK.out _ _ HP.out.2.1 (fun hHeld => ?_)
                    clear hK K
                    refine pure_ (i := 5) (N := some 45) (v := ?_) (a' := ?_) #[true, false, true, true, true, true, true, true, false, false, false] rfl rfl (by kernel_rfl) (fun _ _ _ h => h) (Or.inl ⟨by rfl, ?_⟩) ?_ ?_
                    rotate_left
                    · intro w'
                      go_simp
                      with_reducible rfl
                    rotate_left
                    · simp only [Act.put, List.setIfInBounds_toArray, List.set_cons_zero, List.set_cons_succ, i64_w, i32_w]
                      rfl
                    refine one_ (i := 1) (N := some 42) #[true, true, true, true, true, true, true, true, false, false, false] rfl rfl (by kernel_rfl) (by decide) (fun K hK => ?_)
                    refine Kd.R_lit_step kA _ 34 ?hg (N := 42) ?hd (xs := [[z0, z1, z2, z3]]) (inner := [.int .i64 z0, .int .i64 z1, .int .i64 z2, .int .i64 z3]) (ok := fun _ => True) (okp := fun _ => True) ?hr ?hp (fun _ hk => hk) trivial (Below.refl _ _) (Nat.le_refl _) (by simp) ?_; (case hd => rfl); (case hg => rfl); (case hr => first | (go_simp; done) | (go_simp; rfl)); (case hp => exact kA_one _ _ _ _ rfl)
                    intro v42 w13 ho hb hg_ hnew_
                    have n0_ := Aside0.mk (HP.out.setq ho hb)
                    clear HP ho hb hg_ hnew_
                    have HP := n0_
                    clear n0_
                    refine hK.out _ _ HP.out.2.1 (fun hHeld => ?_)
                    clear hK K
                    refine norm_ (a' := ?_) ?_ ?_
                    rotate_left
                    · show Act.put _ (some 42) _ = _
                      simp only [Act.put, List.setIfInBounds_toArray, List.set_cons_zero, List.set_cons_succ, i64_w, i32_w]
                      rfl
                    refine pure_ (i := 8) (N := some 8) (v := ?_) (a' := ?_) #[true, true, true, true, true, true, true, true, true, false, false] rfl rfl (by kernel_rfl) (fun _ _ _ h => h) (Or.inl ⟨by rfl, ?_⟩) ?_ ?_
                    rotate_left
                    · intro w'
                      go_simp
                      with_reducible rfl
                    rotate_left
                    · simp only [Act.put, List.setIfInBounds_toArray, List.set_cons_zero, List.set_cons_succ, i64_w, i32_w]
                      rfl
                    exact norm_ (by simp only [putAll, Act.put, List.setIfInBounds_toArray, List.set_cons_zero, List.set_cons_succ]) (hCont (v42, bm, gh) _ HP.out)
              · skip
                refine box_step ?hg (N := 10) ?hd (cs := #[.bool false, .bool false, .bool false, .bool false, .bool false, .bool false, .bool false, .bool false, .bool false, .bool false, .bool false, .bool false, .bool false, .bool false, .bool false, .bool false, .bool false, .bool false, .bool false, .bool false, .bool false, .bool false, .bool false, .bool false]) (t := 37) ?hr ?_; (case hd => rfl); (case hg => rfl); (case hr => first | (go_simp; done) | (go_simp; rfl))
                intro gh hg_ w10 hbox hb
                have n0_ := Aside0.mk (HP.out.setg hg_ hbox hb)
                clear HP hg_ hbox hb
                have HP := n0_
                clear n0_
                refine hK.out _ _ HP.out.2.1 (fun hHeld => ?_)
                clear hK K
                refine norm_ (a' := ?_) ?_ ?_
                rotate_left
                · show Act.put _ (some 10) _ = _
                  simp only [Act.put, List.setIfInBounds_toArray, List.set_cons_zero, List.set_cons_succ, i64_w, i32_w]
                  rfl
                refine two_ (i := 1) (j := 2) (Ni := some 42) (Nj := some 43) #[true, true, false, true, false, false, true, true, false, false, false] #[true, false, true, true, false, false, true, true, false, false, false] rfl rfl rfl rfl (by kernel_rfl) (by decide) (by decide) (fun K hK => ?_) (fun K hK => ?_)
                · skip
                  refine Kd.R_lit_step kA _ 34 ?hg (N := 42) ?hd (xs := [[z0, z1, z2, z3]]) (inner := [.int .i64 z0, .int .i64 z1, .int .i64 z2, .int .i64 z3]) (ok := fun _ => True) (okp := fun _ => True) ?hr ?hp (fun _ hk => hk) trivial (Below.refl _ _) (Nat.le_refl _) (by simp) ?_; (case hd => rfl); (case hg => rfl); (case hr => first | (go_simp; done) | (go_simp; rfl)); (case hp => exact kA_one _ _ _ _ rfl)
                  intro v42 w11 ho hb hg_ hnew_
                  have n0_ := Aside0.mk (HP.out.setq ho hb)
                  clear HP ho hb hg_ hnew_
                  have HP := n0_
                  clear n0_
                  refine hK.out _ _ HP.out.2.1 (fun hHeld => ?_)
                  clear hK K
                  refine norm_ (a' := ?_) ?_ ?_
                  rotate_left
                  · show Act.put _ (some 42) _ = _
                    simp only [Act.put, List.setIfInBounds_toArray, List.set_cons_zero, List.set_cons_succ, i64_w, i32_w]
                    rfl
                  refine pure_ (i := 8) (N := some 8) (v := ?_) (a' := ?_) #[true, true, false, true, false, false, true, true, true, false, false] rfl rfl (by kernel_rfl) (fun _ _ _ h => h) (Or.inl ⟨by rfl, ?_⟩) ?_ ?_
                  rotate_left
                  · intro w'
                    go_simp
                    with_reducible rfl
                  rotate_left
                  · simp only [Act.put, List.setIfInBounds_toArray, List.set_cons_zero, List.set_cons_succ, i64_w, i32_w]
                    rfl
                  refine one_ (i := 2) (N := some 43) #[true, true, true, true, false, false, true, true, true, false, false] rfl rfl (by kernel_rfl) (by decide) (fun K hK => ?_)
                  refine event_step (by rfl) (v := .map (some (World.heap w11).size)) (w1 := World.alloc w11 (.map #[] 0)) (by first | (go_simp; done) | (go_simp; rfl)) ?_
                  have n0_ := Aside0.mk HP.out.setm
                  clear HP
                  have HP := n0_
                  clear n0_
                  refine hK.out _ _ HP.out.2.1 (fun hHeld => ?_)
                  clear hK K
                  refine norm_ (a' := ?_) ?_ ?_
                  rotate_left
                  · show Act.put _ (some 43) _ = _
                    simp only [Act.put, List.setIfInBounds_toArray, List.set_cons_zero, List.set_cons_succ, i64_w, i32_w]
                    rfl
                  generalize World.alloc w11 (Obj.map #[] 0) = w12 at hHeld HP ⊢
                  generalize (World.heap w11).size = bm at HP ⊢
                  refine one_ (i := 4) (N := none) #[true, true, true, true, true, false, true, true, true, false, false] rfl rfl (by kernel_rfl) (by decide) (fun K hK => ?_)
                  obtain ⟨w13, hup, hput⟩ := HP.out.put rfl
                  replace hup : (Instr.mapUpdate 36 (.map (some bm)) (.agg #[.int .i64 z0, .int .i64 z1, .int .i64 z2, .int .i64 z3]) (.bool true)).run Try.prog _ = .ok () w13 := hup
                  refine skip_step (w1 := w13) (by rfl) rfl (by first | (go_simp; done) | (go_simp; rfl)) ?_
                  have n0_ := Aside0.mk hput
                  clear HP hup hput
                  have HP := n0_
                  clear n0_
                  refine hK.out _ _ HP.out.2.1 (fun hHeld => ?_)
                  clear hK K
                  refine pure_ (i := 5) (N := some 45) (v := ?_) (a' := ?_) #[true, true, true, true, true, true, true, true, true, false, false] rfl rfl (by kernel_rfl) (fun _ _ _ h => h) (Or.inl ⟨by rfl, ?_⟩) ?_ ?_
                  rotate_left
                  · intro w'
                    go_simp
                    with_reducible rfl
                  rotate_left
                  · simp only [Act.put, List.setIfInBounds_toArray, List.set_cons_zero, List.set_cons_succ, i64_w, i32_w]
                    rfl
                  exact norm_ (by simp only [putAll, Act.put, List.setIfInBounds_toArray, List.set_cons_zero, List.set_cons_succ]) (hCont (v42, bm, gh) _ HP.out)
                · skip
                  refine event_step (by rfl) (v := .map (some (World.heap w10).size)) (w1 := World.alloc w10 (.map #[] 0)) (by first | (go_simp; done) | (go_simp; rfl)) ?_
                  have n0_ := Aside0.mk HP.out.setm
                  clear HP
                  have HP := n0_
                  clear n0_
                  refine hK.out _ _ HP.out.2.1 (fun hHeld => ?_)
                  clear hK K
                  refine norm_ (a' := ?_) ?_ ?_
                  rotate_left
                  · show Act.put _ (some 43) _ = _
                    simp only [Act.put, List.setIfInBounds_toArray, List.set_cons_zero, List.set_cons_succ, i64_w, i32_w]
                    rfl
                  generalize World.alloc w10 (Obj.map #[] 0) = w11 at hHeld HP ⊢
                  generalize (World.heap w10).size = bm at HP ⊢
                  refine two_ (i := 1) (j := 4) (Ni := some 42) (Nj := none) #[true, true, true, true, false, false, true, true, false, false, false] #[true, false, true, true, true, false, true, true, false, false, false] rfl rfl rfl rfl (by kernel_rfl) (by decide) (by decide) (fun K hK => ?_) (fun K hK => ?_)
                  · skip
                    refine Kd.R_lit_step kA _ 34 ?hg (N := 42) ?hd (xs := [[z0, z1, z2, z3]]) (inner := [.int .i64 z0, .int .i64 z1, .int .i64 z2, .int .i64 z3]) (ok := fun _ => True) (okp := fun _ => True) ?hr ?hp (fun _ hk => hk) trivial (Below.refl _ _) (Nat.le_refl _) (by simp) ?_; (case hd => rfl); (case hg => rfl); (case hr => first | (go_simp; done) | (go_simp; rfl)); (case hp => exact kA_one _ _ _ _ rfl)
                    intro v42 w12 ho hb hg_ hnew_
                    have n0_ := Aside0.mk (HP.out.setq ho hb)
                    clear HP ho hb hg_ hnew_
                    have HP := n0_
                    clear n0_
                    refine hK.out _ _ HP.out.2.1 (fun hHeld => ?_)
                    clear hK K
                    refine norm_ (a' := ?_) ?_ ?_
                    rotate_left
                    · show Act.put _ (some 42) _ = _
                      simp only [Act.put, List.setIfInBounds_toArray, List.set_cons_zero, List.set_cons_succ, i64_w, i32_w]
                      rfl
                    refine pure_ (i := 8) (N := some 8) (v := ?_) (a' := ?_) #[true, true, true, true, false, false, true, true, true, false, false] rfl rfl (by kernel_rfl) (fun _ _ _ h => h) (Or.inl ⟨by rfl, ?_⟩) ?_ ?_
                    rotate_left
                    · intro w'
                      go_simp
                      with_reducible rfl
                    rotate_left
                    · simp only [Act.put, List.setIfInBounds_toArray, List.set_cons_zero, List.set_cons_succ, i64_w, i32_w]
                      rfl
                    refine one_ (i := 4) (N := none) #[true, true, true, true, true, false, true, true, true, false, false] rfl rfl (by kernel_rfl) (by decide) (fun K hK => ?_)
                    obtain ⟨w13, hup, hput⟩ := HP.out.put rfl
                    replace hup : (Instr.mapUpdate 36 (.map (some bm)) (.agg #[.int .i64 z0, .int .i64 z1, .int .i64 z2, .int .i64 z3]) (.bool true)).run Try.prog _ = .ok () w13 := hup
                    refine skip_step (w1 := w13) (by rfl) rfl (by first | (go_simp; done) | (go_simp; rfl)) ?_
                    have n0_ := Aside0.mk hput
                    clear HP hup hput
                    have HP := n0_
                    clear n0_
                    refine hK.out _ _ HP.out.2.1 (fun hHeld => ?_)
                    clear hK K
                    refine pure_ (i := 5) (N := some 45) (v := ?_) (a' := ?_) #[true, true, true, true, true, true, true, true, true, false, false] rfl rfl (by kernel_rfl) (fun _ _ _ h => h) (Or.inl ⟨by rfl, ?_⟩) ?_ ?_
                    rotate_left
                    · intro w'
                      go_simp
                      with_reducible rfl
                    rotate_left
                    · simp only [Act.put, List.setIfInBounds_toArray, List.set_cons_zero, List.set_cons_succ, i64_w, i32_w]
                      rfl
                    exact norm_ (by simp only [putAll, Act.put, List.setIfInBounds_toArray, List.set_cons_zero, List.set_cons_succ]) (hCont (v42, bm, gh) _ HP.out)
                  · skip
                    obtain ⟨w12, hup, hput⟩ := HP.out.put rfl
                    replace hup : (Instr.mapUpdate 36 (.map (some bm)) (.agg #[.int .i64 z0, .int .i64 z1, .int .i64 z2, .int .i64 z3]) (.bool true)).run Try.prog _ = .ok () w12 := hup
                    refine skip_step (w1 := w12) (by rfl) rfl (by first | (go_simp; done) | (go_simp; rfl)) ?_
                    have n0_ := Aside0.mk hput
                    clear HP hup hput
                    have HP := n0_
                    clear n0_
                    refine hK.out _ _ HP.out.2.1 (fun hHeld => ?_)
                    clear hK K
                    refine pure_ (i := 5) (N := some 45) (v := ?_) (a' := ?_) #[true, false, true, true, true, true, true, true, false, false, false] rfl rfl (by kernel_rfl) (fun _ _ _ h => h) (Or.inl ⟨by rfl, ?_⟩) ?_ ?_
                    rotate_left
                    · intro w'
                      go_simp
                      with_reducible rfl
                    rotate_left
                    · simp only [Act.put, List.setIfInBounds_toArray, List.set_cons_zero, List.set_cons_succ, i64_w, i32_w]
                      rfl
                    refine one_ (i := 1) (N := some 42) #[true, true, true, true, true, true, true, true, false, false, false] rfl rfl (by kernel_rfl) (by decide) (fun K hK => ?_)
                    refine Kd.R_lit_step kA _ 34 ?hg (N := 42) ?hd (xs := [[z0, z1, z2, z3]]) (inner := [.int .i64 z0, .int .i64 z1, .int .i64 z2, .int .i64 z3]) (ok := fun _ => True) (okp := fun _ => True) ?hr ?hp (fun _ hk => hk) trivial (Below.refl _ _) (Nat.le_refl _) (by simp) ?_; (case hd => rfl); (case hg => rfl); (case hr => first | (go_simp; done) | (go_simp; rfl)); (case hp => exact kA_one _ _ _ _ rfl)
                    intro v42 w13 ho hb hg_ hnew_
                    have n0_ := Aside0.mk (HP.out.setq ho hb)
                    clear HP ho hb hg_ hnew_
                    have HP := n0_
                    clear n0_
                    refine hK.out _ _ HP.out.2.1 (fun hHeld => ?_)
                    clear hK K
                    refine norm_ (a' := ?_) ?_ ?_
                    rotate_left
                    · show Act.put _ (some 42) _ = _
                      simp only [Act.put, List.setIfInBounds_toArray, List.set_cons_zero, List.set_cons_succ, i64_w, i32_w]
                      rfl
                    refine pure_ (i := 8) (N := some 8) (v := ?_) (a' := ?_) #[true, true, true, true, true, true, true, true, true, false, false] rfl rfl (by kernel_rfl) (fun _ _ _ h => h) (Or.inl ⟨by rfl, ?_⟩) ?_ ?_
                    rotate_left
                    · intro w'
                      go_simp
                      with_reducible rfl
                    rotate_left
                    · simp only [Act.put, List.setIfInBounds_toArray, List.set_cons_zero, List.set_cons_succ, i64_w, i32_w]
                      rfl
                    exact norm_ (by simp only [putAll, Act.put, List.setIfInBounds_toArray, List.set_cons_zero, List.set_cons_succ]) (hCont (v42, bm, gh) _ HP.out)
            rintro ⟨qv, bm, gh⟩ wz hP_
            have HP := Aside0.mk hP_
            clear hP_
            have hHeld := HP.out.2.1
            refine norm_ (a' := ?_) ?_ ?_
            rotate_left
            · simp only [putAll, Act.put, List.setIfInBounds_toArray, List.set_cons_zero, List.set_cons_succ]
              rfl
            refine pure_ (i := 9) (N := some 9) (v := ?_) (a' := ?_) #[true, true, true, true, true, true, true, true, true, true, false] rfl rfl (by kernel_rfl) (fun _ _ _ h => h) (Or.inl ⟨by rfl, ?_⟩) ?_ ?_
            rotate_left
            · intro w'
              go_simp
              with_reducible rfl
            rotate_left
            · simp only [Act.put, List.setIfInBounds_toArray, List.set_cons_zero, List.set_cons_succ, i64_w, i32_w]
              rfl
            have HT := Aside0.mk (show Rs w gh bm qv [[z0, z1, z2, z3]] [[z0, z1, z2, z3]] (List.replicate 24 false) [] wz from HP.out.fin)
            refine one_ (i := 10) (N := none) #[true, true, true, true, true, true, true, true, true, true, true] rfl rfl (by kernel_rfl) (by decide) (fun K hK => ?_)
            rw [if_pos (by rfl)]
            refine wp_store_row _ _ _ rfl gh #[.bool false, .bool false, .bool false, .bool false, .bool false, .bool false, .bool false, .bool false, .bool false, .bool false, .bool false, .bool false, .bool false, .bool false, .bool false, .bool false, .bool false, .bool false, .bool false, .bool false, .bool false, .bool false, .bool false, .bool false] rfl rfl 37 _ (show wz.heap[gh]? = some (.cells #[.bool false, .bool false, .bool false, .bool false, .bool false, .bool false, .bool false, .bool false, .bool false, .bool false, .bool false, .bool false, .bool false, .bool false, .bool false, .bool false, .bool false, .bool false, .bool false, .bool false, .bool false, .bool false, .bool false, .bool false] 37 (0, 0)) from HT.out.2.2.2.1) size37 rfl (bools_one (List.replicate 24 false)) ?_
            rw [setRow_id wz gh #[.bool false, .bool false, .bool false, .bool false, .bool false, .bool false, .bool false, .bool false, .bool false, .bool false, .bool false, .bool false, .bool false, .bool false, .bool false, .bool false, .bool false, .bool false, .bool false, .bool false, .bool false, .bool false, .bool false, .bool false] 37 HT.out.2.2.2.1]
            refine hK.out _ _ hHeld (fun _ => ?_)
            clear hK K hHeld HP
            refine done_ (by kernel_rfl) ?_
            go_wp2
            go_loopg [8, 11] k (fun kq v8 v11 wr => ∃ (qs : List (List Int)) (hs : List Bool) (x : Int), v11 = .int .i64 x ∧ Aside0 (impl_ResiduesOf.l1 kq qs hs x = some (r1, r2)) ∧ Aside0 (kq ≤ k) ∧ Aside0 (Rs w gh bm v8 qs qs hs [] wr))
            case atStart => exact ⟨_, _, 0, (by first | rfl | (simp; done) | (simp [*]; done)), H', ⟨Nat.le_refl _⟩, HT⟩
            case round =>
              clear H' HT
              obtain ⟨qs, hs, x, rfl, HA, HK1, HT⟩ := hrel
              cases gk with
              | zero => exact absurd HA.out (by simp [impl_ResiduesOf.l1])
              | succ k1 =>
                have H := HA.out
                clear HA
                rw [impl_ResiduesOf.l1] at H
                obtain ⟨Aq, cq, eq_⟩ := Kd.R_slice HT.out.2.2.2.2.2.1
                subst eq_
                by_cases c7 : x < (qs.length : Int)
                · rw [if_pos c7] at H
                  by_cases c8 : 0 ≤ x
                  · rw [if_pos c8] at H
                    obtain ⟨adq, x0, x1, x2, x3, e10, hrow, hq0, hq1, hq2, hq3⟩ := at_A (Kd.R_reads' HT.out.2.2.2.2.2.1).2.2 x c8 c7
                    cases e10
                    rw [hrow] at H
                    clear hrow
                    have H' := Aside0.mk H
                    clear H
                    have c7b0 : decide (x < (qs.length : Int)) = true := decide_eq_true c7
                    have hx2 : (0 ≤ x) = True := eq_true c8
                    have hx3 : (x < (qs.length : Int)) = True := eq_true c7
                    clear c7 c8
                    go_wp2_with (first
                      | ((with_reducible refine gate_dst (N := 12) rfl ?_); refine box_event ?hg (N := 12) ?hd (cs := #[.int .i64 0, .int .i64 0, .int .i64 0, .int .i64 0]) (t := 34) ?hr ?_; (case hd => rfl); (case hg => rfl); (case hr => first | (go_simp; done) | (go_simp; rfl)); intro gx hg w12 hbox hb; have n0_ := Aside0.mk (HT.out.arr hg (show ArrAt w12 gx [0, 0, 0, 0] from hbox) hb); clear HT hb hbox hg; have HT := n0_; clear n0_)
                      | ((with_reducible refine gate_store (t := 34) (p := 12) rfl ?_); refine arr_store rfl _ _ _ rfl rfl gx #[.int .i64 x0, .int .i64 x1, .int .i64 x2, .int .i64 x3] #[.int .i64 0, .int .i64 0, .int .i64 0, .int .i64 0] rfl rfl 34 HT.out.at0 size34 rfl (nums_one [x0, x1, x2, x3]) ?_; intro w13 h1_ h2_ h3_ h4_ h5_ h6_; have n0_ := Aside0.mk (HT.out.row (c := [x0, x1, x2, x3]) (fun p hp => by cases hp) h1_ h2_ h3_ h4_ h5_ h6_); clear h1_ h2_ h3_ h4_ h5_ h6_ HT; have HT := n0_; clear n0_; have hcx0 : w13.cell? ⟨gx, 0, none⟩ = some (.int .i64 x0) := HT.out.at0.cell 0 _ rfl; have hcx1 : w13.cell? ⟨gx, 1, none⟩ = some (.int .i64 x1) := HT.out.at0.cell 1 _ rfl; have hcx2 : w13.cell? ⟨gx, 2, none⟩ = some (.int .i64 x2) := HT.out.at0.cell 2 _ rfl; have hcx3 : w13.cell? ⟨gx, 3, none⟩ = some (.int .i64 x3) := HT.out.at0.cell 3 _ rfl))
                    go_loopg [8, 58] k1 (fun kq v8 v58 wr => ∃ (qs : List (List Int)) (hs : List Bool) (i : Int), v58 = .int .i64 i ∧ 0 ≤ i ∧ Aside0 (impl_ResiduesOf.l2 kq qs hs x [x0, x1, x2, x3] i = some (r1, r2)) ∧ Aside0 (kq ≤ k1) ∧ Aside0 (Rs w gh bm v8 qs qs hs [(gx, [x0, x1, x2, x3])] wr))
                    case atStart => exact ⟨_, _, 0, (by first | rfl | (simp; done) | (simp [*]; done)), Int.le_refl _, H', ⟨Nat.le_refl _⟩, HT⟩
                    case round =>
                      clear H' HT hcx0 hcx1 hcx2 hcx3 hq0 hq1 hq2 hq3 hx2 hx3 c7b0
                      clear hs
                      obtain ⟨qs2, hs, i, rfl, hi0, HA, HK2, HT⟩ := hrel
                      cases gk with
                      | zero => exact absurd HA.out (by simp [impl_ResiduesOf.l2])
                      | succ k2 =>
                        have H := HA.out
                        clear HA
                        rw [impl_ResiduesOf.l2] at H
                        obtain ⟨Aq2, cq2, eq2⟩ := Kd.R_slice HT.out.2.2.2.2.2.1
                        subst eq2
                        by_cases c9 : i < 4
                        · rw [if_pos c9] at H
                          by_cases c10 : 0 ≤ rd [x0, x1, x2, x3] i
                          · rw [if_pos c10] at H
                            by_cases c11 : rd [x0, x1, x2, x3] i < 24
                            · rw [if_pos c11] at H
                              replace H := Option.bind_eq_some_iff.mp H
                              obtain ⟨t, A120, H⟩ := H
                              have A12 := Aside0.mk A120
                              clear A120
                              by_cases c12 : i < (t.length : Int)
                              · rw [if_pos c12] at H
                                have hix : ∀ w' : World, (Instr.index 34 (.agg #[.int .i64 x0, .int .i64 x1, .int .i64 x2, .int .i64 x3]) (.int .i64 i)).run Try.prog w' = .ok (.int .i64 (rd [x0, x1, x2, x3] i)) w' := fun w' => ra_index [x0, x1, x2, x3] rfl i hi0 c9 w'
                                generalize rd [x0, x1, x2, x3] i = n at H hix c10 c11
                                obtain ⟨y0, y1, y2, y3, hy⟩ := four_of (c := [x0, x1, x2, x3].set i.toNat (rd t i % 24)) (by rw [List.length_set]; rfl)
                                rw [hy] at H
                                have Ny := Aside0.mk hy
                                clear hy
                                obtain ⟨hcg, hfg⟩ := HT.out.hcell n c10 c11
                                have c9b0 : decide (i < 4) = true := decide_eq_true c9
                                have hi2 : (0 ≤ i) = True := eq_true hi0
                                have hi3 : (i < 4) = True := eq_true c9
                                have hi4 : (i < (t.length : Int)) = True := eq_true c12
                                have hn2 : (0 ≤ n) = True := eq_true c10
                                have hn3 : (n < 24) = True := eq_true c11
                                by_cases c13 : [y0, y1, y2, y3] ∈ qs2
                                · rw [if_pos c13] at H
                                  have MT := Aside0.mk c13
                                  have H' := Aside0.mk H
                                  clear H c13
                                  go_wp2_with (first
                                    | ((with_reducible refine gate_store (t := 4) (p := 63) rfl ?_); refine store_event (t := 4) (p := 63) (v := ?vo_w20) (w1 := (wr.setCell ⟨gh, n.toNat, none⟩ (.bool true))) ?hg ?ho ?hn ?hr ?_; (case ho => rfl); (case hg => rfl); (case hn => rfl); (case hr => first | (go_simp; done) | (go_simp; rfl)); intro w20 hw; have n0_ := Aside0.mk (HT.out.mark n.toNat); rw [← hw] at n0_; clear HT hw hcg hfg; have HT := n0_; clear n0_; have hcx0 : w20.cell? ⟨gx, 0, none⟩ = some (.int .i64 x0) := HT.out.at0.cell 0 _ rfl; have hcx1 : w20.cell? ⟨gx, 1, none⟩ = some (.int .i64 x1) := HT.out.at0.cell 1 _ rfl; have hcx2 : w20.cell? ⟨gx, 2, none⟩ = some (.int .i64 x2) := HT.out.at0.cell 2 _ rfl; have hcx3 : w20.cell? ⟨gx, 3, none⟩ = some (.int .i64 x3) := HT.out.at0.cell 3 _ rfl)
                                    | ((with_reducible refine gate_dst (N := 15) rfl ?_); refine box_event ?hg (N := 15) ?hd (cs := #[.int .i64 0, .int .i64 0, .int .i64 0, .int .i64 0]) (t := 34) ?hr ?_; (case hd => rfl); (case hg => rfl); (case hr => first | (go_simp; done) | (go_simp; rfl)); intro gn hg w21 hbox hb; have NE := Aside0.mk (show ∀ p ∈ [(gx, [x0, x1, x2, x3])], p.1 ≠ gn from fun p hp => by have h1 := HT.out.lt.2.2.2 p hp; omega); have n0_ := Aside0.mk (HT.out.arr hg (show ArrAt w21 gn [0, 0, 0, 0] from hbox) hb); clear HT hb hbox hg; have HT := n0_; clear n0_)
                                    | ((with_reducible refine gate_store (t := 34) (p := 15) rfl ?_); refine arr_store rfl _ _ _ rfl rfl gn #[.int .i64 x0, .int .i64 x1, .int .i64 x2, .int .i64 x3] #[.int .i64 0, .int .i64 0, .int .i64 0, .int .i64 0] rfl rfl 34 HT.out.at0 size34 rfl (nums_one [x0, x1, x2, x3]) ?_; intro w22 h1_ h2_ h3_ h4_ h5_ h6_; have n0_ := Aside0.mk (HT.out.row (c := [x0, x1, x2, x3]) NE.out h1_ h2_ h3_ h4_ h5_ h6_); clear h1_ h2_ h3_ h4_ h5_ h6_ HT; have HT := n0_; clear n0_)
                                    | ((with_reducible refine gate_callee (f := 18) rfl ?_); refine goesL_ (some 69) rfl rfl Try.func18 (by kernel_rfl) rfl #[.slice (some ⟨gx, 0, none⟩) 4 4, .int .i64 i] rfl (by (try simp only [List.map_toArray, List.map_cons, List.map_nil]); first | done | rfl) ?_; refine (impl_swapped.calls k2 (some ⟨gx, 0, none⟩) 4 [x0, x1, x2, x3] i t _ (HT.out.at1.C rfl) (Nat.le_refl _) A12.out).mono ?_; rintro e w23 ⟨v23, rfl, ho, hb⟩; refine ⟨_, rfl, ?_⟩; have n0_ := Aside0.mk (HT.out.below hb); clear HT hb; have HT := n0_; clear n0_; obtain ⟨An, cn, en⟩ := Kd.R_slice ho; subst en; obtain ⟨ad2, e2, hy0⟩ := Kd.at_int (Kd.R_reads' ho).2.2 i hi0 c12; cases e2; clear ho)
                                    | (go_at_fn 17; refine (resMod.calls (rd t i) _).mono ?_; rintro e w24 ⟨rfl, hd⟩; have hb := Drawn0.below hd; have n0_ := Aside0.mk (HT.out.below hb); clear HT hb hd hy0; have HT := n0_; clear n0_; have hcn : w24.cell? ⟨gn, i.toNat, none⟩ = some (.int .i64 ([x0, x1, x2, x3].getD i.toNat 0)) := HT.out.at0.cell _ _ (by simp [List.getD_eq_getElem?_getD, List.getElem?_eq_getElem (show i.toNat < [x0, x1, x2, x3].length by simp only [List.length_cons, List.length_nil]; omega)]); have hfn := blk_frozen (show w24.heap[gn]? = some (Obj.cells (nums .i64 [x0, x1, x2, x3]).toArray 34 (0, 0)) from HT.out.at0) i.toNat)
                                    | ((with_reducible refine gate_store (t := 3) (p := 74) rfl ?_); refine store_event (t := 3) (p := 74) (v := ?vo_w25) (w1 := (w24.setCell ⟨gn, i.toNat, none⟩ (.int .i64 (rd t i % 24)))) ?hg ?ho ?hn ?hr ?_; (case ho => rfl); (case hg => rfl); (case hn => rfl); (case hr => first | (go_simp; done) | (go_simp; rfl)); intro w25 hw; have n0_ := Aside0.mk (HT.out.elem NE.out i.toNat (rd t i % 24)); rw [← hw, Ny.out] at n0_; clear HT hw hcn hfn; have HT := n0_; clear n0_; have hcn0 : w25.cell? ⟨gn, 0, none⟩ = some (.int .i64 y0) := HT.out.at0.cell 0 _ rfl; have hcn1 : w25.cell? ⟨gn, 1, none⟩ = some (.int .i64 y1) := HT.out.at0.cell 1 _ rfl; have hcn2 : w25.cell? ⟨gn, 2, none⟩ = some (.int .i64 y2) := HT.out.at0.cell 2 _ rfl; have hcn3 : w25.cell? ⟨gn, 3, none⟩ = some (.int .i64 y3) := HT.out.at0.cell 3 _ rfl; have hlk : (Instr.lookup 36 (.map (some bm)) (.agg #[.int .i64 y0, .int .i64 y1, .int .i64 y2, .int .i64 y3]) false).run Try.prog w25 = .ok (.bool true) w25 := (by have h_ := set_look HT.out.2.2.2.2.1 [y0, y1, y2, y3] rfl; rw [decide_eq_true MT.out] at h_; exact h_)))
                                  go_roundg k2
                                  case measure => have := HK1.out; have := HK2.out; omega
                                  case rel => exact ⟨qs2, hs.set n.toNat true, wrap64 (i + 1), (by first | rfl | (simp; done) | (simp; unfold wrap64; omega)), by unfold wrap64; omega, H', ⟨by have := HK1.out; have := HK2.out; omega⟩, ⟨HT.out.drop⟩⟩
                                · rw [if_neg c13] at H
                                  by_cases c14 : qs2.length < 4398046511104
                                  · rw [if_pos c14] at H
                                    have LM := Aside0.mk c14
                                    have MT := Aside0.mk c13
                                    have H' := Aside0.mk H
                                    clear H c13 c14
                                    go_wp2_with (first
                                      | ((with_reducible refine gate_store (t := 4) (p := 63) rfl ?_); refine store_event (t := 4) (p := 63) (v := ?vo_w20) (w1 := (wr.setCell ⟨gh, n.toNat, none⟩ (.bool true))) ?hg ?ho ?hn ?hr ?_; (case ho => rfl); (case hg => rfl); (case hn => rfl); (case hr => first | (go_simp; done) | (go_simp; rfl)); intro w20 hw; have n0_ := Aside0.mk (HT.out.mark n.toNat); rw [← hw] at n0_; clear HT hw hcg hfg; have HT := n0_; clear n0_; have hcx0 : w20.cell? ⟨gx, 0, none⟩ = some (.int .i64 x0) := HT.out.at0.cell 0 _ rfl; have hcx1 : w20.cell? ⟨gx, 1, none⟩ = some (.int .i64 x1) := HT.out.at0.cell 1 _ rfl; have hcx2 : w20.cell? ⟨gx, 2, none⟩ = some (.int .i64 x2) := HT.out.at0.cell 2 _ rfl; have hcx3 : w20.cell? ⟨gx, 3, none⟩ = some (.int .i64 x3) := HT.out.at0.cell 3 _ rfl)
                                      | ((with_reducible refine gate_dst (N := 15) rfl ?_); refine box_event ?hg (N := 15) ?hd (cs := #[.int .i64 0, .int .i64 0, .int .i64 0, .int .i64 0]) (t := 34) ?hr ?_; (case hd => rfl); (case hg => rfl); (case hr => first | (go_simp; done) | (go_simp; rfl)); intro gn hg w21 hbox hb; have NE := Aside0.mk (show ∀ p ∈ [(gx, [x0, x1, x2, x3])], p.1 ≠ gn from fun p hp => by have h1 := HT.out.lt.2.2.2 p hp; omega); have n0_ := Aside0.mk (HT.out.arr hg (show ArrAt w21 gn [0, 0, 0, 0] from hbox) hb); clear HT hb hbox hg; have HT := n0_; clear n0_)
                                      | ((with_reducible refine gate_store (t := 34) (p := 15) rfl ?_); refine arr_store rfl _ _ _ rfl rfl gn #[.int .i64 x0, .int .i64 x1, .int .i64 x2, .int .i64 x3] #[.int .i64 0, .int .i64 0, .int .i64 0, .int .i64 0] rfl rfl 34 HT.out.at0 size34 rfl (nums_one [x0, x1, x2, x3]) ?_; intro w22 h1_ h2_ h3_ h4_ h5_ h6_; have n0_ := Aside0.mk (HT.out.row (c := [x0, x1, x2, x3]) NE.out h1_ h2_ h3_ h4_ h5_ h6_); clear h1_ h2_ h3_ h4_ h5_ h6_ HT; have HT := n0_; clear n0_)
                                      | ((with_reducible refine gate_callee (f := 18) rfl ?_); refine goesL_ (some 69) rfl rfl Try.func18 (by kernel_rfl) rfl #[.slice (some ⟨gx, 0, none⟩) 4 4, .int .i64 i] rfl (by (try simp only [List.map_toArray, List.map_cons, List.map_nil]); first | done | rfl) ?_; refine (impl_swapped.calls k2 (some ⟨gx, 0, none⟩) 4 [x0, x1, x2, x3] i t _ (HT.out.at1.C rfl) (Nat.le_refl _) A12.out).mono ?_; rintro e w23 ⟨v23, rfl, ho, hb⟩; refine ⟨_, rfl, ?_⟩; have n0_ := Aside0.mk (HT.out.below hb); clear HT hb; have HT := n0_; clear n0_; obtain ⟨An, cn, en⟩ := Kd.R_slice ho; subst en; obtain ⟨ad2, e2, hy0⟩ := Kd.at_int (Kd.R_reads' ho).2.2 i hi0 c12; cases e2; clear ho)
                                      | (go_at_fn 17; refine (resMod.calls (rd t i) _).mono ?_; rintro e w24 ⟨rfl, hd⟩; have hb := Drawn0.below hd; have n0_ := Aside0.mk (HT.out.below hb); clear HT hb hd hy0; have HT := n0_; clear n0_; have hcn : w24.cell? ⟨gn, i.toNat, none⟩ = some (.int .i64 ([x0, x1, x2, x3].getD i.toNat 0)) := HT.out.at0.cell _ _ (by simp [List.getD_eq_getElem?_getD, List.getElem?_eq_getElem (show i.toNat < [x0, x1, x2, x3].length by simp only [List.length_cons, List.length_nil]; omega)]); have hfn := blk_frozen (show w24.heap[gn]? = some (Obj.cells (nums .i64 [x0, x1, x2, x3]).toArray 34 (0, 0)) from HT.out.at0) i.toNat)
                                      | ((with_reducible refine gate_store (t := 3) (p := 74) rfl ?_); refine store_event (t := 3) (p := 74) (v := ?vo_w25) (w1 := (w24.setCell ⟨gn, i.toNat, none⟩ (.int .i64 (rd t i % 24)))) ?hg ?ho ?hn ?hr ?_; (case ho => rfl); (case hg => rfl); (case hn => rfl); (case hr => first | (go_simp; done) | (go_simp; rfl)); intro w25 hw; have n0_ := Aside0.mk (HT.out.elem NE.out i.toNat (rd t i % 24)); rw [← hw, Ny.out] at n0_; clear HT hw hcn hfn; have HT := n0_; clear n0_; have hcn0 : w25.cell? ⟨gn, 0, none⟩ = some (.int .i64 y0) := HT.out.at0.cell 0 _ rfl; have hcn1 : w25.cell? ⟨gn, 1, none⟩ = some (.int .i64 y1) := HT.out.at0.cell 1 _ rfl; have hcn2 : w25.cell? ⟨gn, 2, none⟩ = some (.int .i64 y2) := HT.out.at0.cell 2 _ rfl; have hcn3 : w25.cell? ⟨gn, 3, none⟩ = some (.int .i64 y3) := HT.out.at0.cell 3 _ rfl; have hlk : (Instr.lookup 36 (.map (some bm)) (.agg #[.int .i64 y0, .int .i64 y1, .int .i64 y2, .int .i64 y3]) false).run Try.prog w25 = .ok (.bool false) w25 := (by have h_ := set_look HT.out.2.2.2.2.1 [y0, y1, y2, y3] rfl; rw [decide_eq_false MT.out] at h_; exact h_); obtain ⟨w26, hup0, hput⟩ := HT.out.put [y0, y1, y2, y3] rfl MT.out; have hup : (Instr.mapUpdate 36 (.map (some bm)) (.agg #[.int .i64 y0, .int .i64 y1, .int .i64 y2, .int .i64 y3]) (.bool true)).run Try.prog w25 = .ok () w26 := hup0; clear hup0 HT; have HT := Aside0.mk hput; clear hput; have hdn0 : w26.cell? ⟨gn, 0, none⟩ = some (.int .i64 y0) := HT.out.at0.cell 0 _ rfl; have hdn1 : w26.cell? ⟨gn, 1, none⟩ = some (.int .i64 y1) := HT.out.at0.cell 1 _ rfl; have hdn2 : w26.cell? ⟨gn, 2, none⟩ = some (.int .i64 y2) := HT.out.at0.cell 2 _ rfl; have hdn3 : w26.cell? ⟨gn, 3, none⟩ = some (.int .i64 y3) := HT.out.at0.cell 3 _ rfl)
                                      | ((with_reducible refine gate_builtin (b := .append) (xs := #[.tmp 81, .tmp 83]) rfl ?_); at_builtin; refine Kd.R_append kA (w0 := w) w.heap.size rfl (.tmp 81) (.tmp 83) 35 34 (.agg #[.int .i64 0, .int .i64 0, .int .i64 0, .int .i64 0]) 32 rfl Try.underlying35 info34 rfl (by decide) (by omega) (.slice Aq2 qs2.length cq2) qs2 [y0, y1, y2, y3] [.int .i64 y0, .int .i64 y1, .int .i64 y2, .int .i64 y3] (fun k_ => ∀ p ∈ ((gn, [y0, y1, y2, y3]) :: [(gx, [x0, x1, x2, x3])] : List (Nat × List Int)), k_ ≠ p.1) (fun _ => False) rfl rfl ?aP (fun _ hk => hk.elim) ?aF ?aO ?aB ?aS ?aL ?_; (case aP => exact kA_mkM _ _ _ _ rfl); (case aF => exact HT.out.fresh); (case aO => exact HT.out.2.2.2.2.2.1); (case aB => exact HT.out.bel); (case aS => exact below_size HT.out.bel); (case aL => have := LM.out; omega); intro v27 w27 ho hb hg hat; have n0_ := Aside0.mk (HT.out.queue ho hg hb); clear HT ho hb hg hat; have HT := n0_; clear n0_))
                                    go_roundg k2
                                    case measure => have := HK1.out; have := HK2.out; omega
                                    case rel => exact ⟨qs2 ++ [[y0, y1, y2, y3]], hs.set n.toNat true, wrap64 (i + 1), (by first | rfl | (simp; done) | (simp; unfold wrap64; omega)), by unfold wrap64; omega, H', ⟨by have := HK1.out; have := HK2.out; omega⟩, ⟨HT.out.drop⟩⟩
                                  · rw [if_neg c14] at H
                                    cases H
                              · rw [if_neg c12] at H
                                cases H
                            · rw [if_neg c11] at H
                              cases H
                          · rw [if_neg c10] at H
                            cases H
                        · rw [if_neg c9] at H
                          have c9b0 : decide (i < 4) = false := decide_eq_false c9
                          clear c9
                          have H' := Aside0.mk H
                          clear H
                          go_wp2
                          go_roundg k2
                          case measure => have := HK1.out; have := HK2.out; omega
                          case rel => exact ⟨qs2, hs, wrap64 (x + 1), (by first | rfl | (simp; done) | (simp [*]; done)), H', ⟨by have := HK1.out; have := HK2.out; omega⟩, ⟨HT.out.drop⟩⟩
                  · rw [if_neg c8] at H
                    cases H
                · rw [if_neg c7] at H
                  have c7b0 : decide (x < (qs.length : Int)) = false := decide_eq_false c7
                  clear c7
                  simp only [Option.some.injEq, Prod.mk.injEq] at H
                  obtain ⟨hr, rfl⟩ := H
                  have HRS := Aside0.mk (show ([] : List Int) ++ selB ((0 : Nat) : Int) (hs.drop 0) = r1 from hr)
                  clear hr
                  have HL := Aside0.mk HT.out.2.2.1
                  go_wp2_with (first
                    | ((with_reducible refine gate_dst (N := 86) rfl ?_); refine Kd.R_lit (Kd.int .i64) _ 3 ?hg (N := 86) ?hd (xs := ([] : List Int)) (inner := []) (ok := fun _ => True) (okp := fun _ => True) ?hr ?hp (fun _ hk => hk) trivial (Below.refl _ _) (Nat.le_refl _) (by simp) ?_; (case hd => rfl); (case hg => rfl); (case hr => first | (go_simp; done) | (go_simp; rfl)); (case hp => exact (Reps.none _ _)); intro v86 w86 ho hb hg_ hnew_; clear hg_ hnew_; have HO := Aside0.mk (Kd.R_lower ho (below_size HT.out.bel)); have n0_ := Aside0.mk (HT.out.below hb); clear HT hb ho; have HT := n0_; clear n0_)
                    | ((with_reducible refine gate_dst (N := 87) rfl ?_); refine wpList_load_row rfl _ _ rfl gh rfl 37 (bools hs).toArray (0, 0) _ HT.out.2.2.2.1 Try.underlying37 rfl (by rw [size37]; simp [bools, HT.out.2.2.1]) ?_))
                  have HIX := Aside0.mk (fun (i : Nat) (hi : i < 24) (w : World) => rs_index hs HL.out i hi w)
                  have HB := Aside0.mk HT.out.bel
                  generalize (bools hs).toArray = CA at HIX
                  clear HT
                  go_loopg [16, 88] 24 (fun gq v16 v88 wr => ∃ (i : Nat) (out : List Int), v88 = .int .i64 i ∧ i + gq = 24 ∧ Aside0 (out.length ≤ i) ∧ Aside0 (out ++ selB i (hs.drop i) = r1) ∧ Aside0 (Kd.R (Kd.int .i64) 3 wr w.heap.size (fun _ => True) v16 out) ∧ Aside0 (Below w.heap.size w wr))
                  case atStart => exact ⟨0, [], rfl, by omega, ⟨by simp⟩, HRS, HO, HB⟩
                  case round =>
                    clear HO HB HRS
                    obtain ⟨i, out, rfl, hig, HLo, HA, HO, HB⟩ := hrel
                    obtain ⟨Ao, co, eo⟩ := Kd.R_slice HO.out
                    subst eo
                    cases gk with
                    | zero =>
                      have hlt2 : decide ((i : Int) < 24) = false := decide_eq_false (by omega)
                      have hr := HA.out
                      rw [List.drop_eq_nil_of_le (by have := HL.out; omega)] at hr
                      simp only [selB, List.append_nil] at hr
                      subst hr
                      clear HA hig
                      go_wp2
                      go_ret2
                      exact ⟨_, rfl, HO.out, HB.out⟩
                    | succ g1 =>
                      have hlt2 : decide ((i : Int) < 24) = true := decide_eq_true (by omega)
                      have hi : i < 24 := by omega
                      have hix := HIX.out i hi
                      have hA := HA.out
                      rw [List.drop_eq_getElem_cons (by have := HL.out; omega)] at hA
                      simp only [selB] at hA
                      have hgd : hs.getD i false = hs[i]'(by have := HL.out; omega) := by
                        have := HL.out
                        simp [List.getD_eq_getElem?_getD, List.getElem?_eq_getElem (show i < hs.length by omega)]
                      rw [← hgd] at hA
                      generalize hs.getD i false = b at hix hA
                      have HA1 := Aside0.mk hA
                      clear HA hA hgd
                      cases b with
                      | false =>
                        replace HA1 := Aside0.mk (show out ++ selB ((i + 1 : Nat) : Int) (hs.drop (i + 1)) = r1 from HA1.out)
                        go_wp2
                        go_roundg g1
                        case measure => omega
                        case rel => exact ⟨i + 1, out, by first | rfl | go_num, by omega, ⟨by have := HLo.out; omega⟩, HA1, HO, HB⟩
                      | true =>
                        obtain ⟨z, hz⟩ : ∃ z, z = out ++ [(i : Int)] := ⟨_, rfl⟩
                        replace HA1 := Aside0.mk (show z ++ selB ((i + 1 : Nat) : Int) (hs.drop (i + 1)) = r1 by rw [hz, List.append_assoc]; exact HA1.out)
                        have Nz := Aside0.mk hz
                        have HL2 := Aside0.mk (show z.length ≤ i + 1 by rw [hz]; simp; exact HLo.out)
                        clear hz
                        go_wp2_with ((with_reducible refine gate_builtin (b := .append) (xs := #[.tmp 93, .tmp 95]) rfl ?_); at_builtin; refine Kd.R_append (Kd.int .i64) (w0 := w) w.heap.size rfl (.tmp 93) (.tmp 95) 22 3 (.int .i64 0) 8 rfl Try.underlying22 info3 rfl (by decide) (by omega) (.slice Ao out.length co) out (i : Int) [.int .i64 i] (fun _ => True) (fun _ => False) rfl rfl ?aP (fun _ hk => hk.elim) ?aF ?aO ?aB ?aS ?aL ?_; (case aP => exact rfl); (case aB => exact HB.out); (case aF => exact (fun _ _ => trivial)); (case aO => exact HO.out); (case aS => exact below_size HB.out); (case aL => have := HLo.out; omega); intro v53 w6 ho hb hg hat; rw [← Nz.out] at ho; have n3_ := Aside0.mk hb; have n4_ := Aside0.mk ho; clear HB HO ho hb hg hat; have HB := n3_; have HO := n4_; clear n3_ n4_)
                        go_roundg g1
                        case measure => omega
                        case rel => exact ⟨i + 1, z, by first | rfl | go_num, by omega, HL2, HA1, HO, HB⟩
      · rw [if_neg c2] at H
        cases H
    · rw [if_neg c1] at H
      simp only [Option.some.injEq, Prod.mk.injEq] at H
      obtain ⟨rfl, rfl⟩ := H
      have c1b : (t2 != 1) = true := by simp [bne, c1]
      clear c1
      go_enter Try.func6, Try.ntmps6
      go_wp2_with (first
        | ((with_reducible refine gate_callee (f := 15) rfl ?_); refine goesL_ (some 20) rfl rfl Try.func15 (by kernel_rfl) rfl #[.slice A0 l0.length c0] rfl (by (try simp only [List.map_toArray, List.map_cons, List.map_nil]); first | done | rfl) ?_; refine (impl_IsQuad.calls k _ _ l0 true _ (Kd.C_below HR0.out HB.out) HC0.out A1.out).mono ?_; rintro e w1 ⟨rfl, hb⟩; refine ⟨_, rfl, ?_⟩; have n0_ := Aside0.mk (below_step HB.out hb); clear HB hb; have HB := n0_; clear n0_)
        | (go_at_call 16; refine (impl_scale.calls k _ _ l0 t2 _ (Kd.C_below HR0.out HB.out) HC0.out A2.out).mono ?_; rintro e w2 ⟨rfl, hb⟩; have n0_ := Aside0.mk (below_step HB.out hb); clear HB hb; have HB := n0_; clear n0_))
      go_ret2
      exact ⟨_, rfl, Kd.R_nil _ _ _ _ _, HB.out⟩

end Go.Proofs.Ytaebcdonekpbiaa.P
