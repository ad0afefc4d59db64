/- Written by a program of this session: for Go functions that a statement reaches, Lean functions with the same answers and the proofs that the calls come to them; conditions: none but the arguments' kinds. -/
import Derived.Test.YtdjfcddmbhfpnaaP0
import Derived.Test.YtdjfcddmbhfpnaaP9
import Derived.Test.YtdjfcddmbhfpnaaP11
import Derived.Test.YtdjfcddmbhfpnaaP12
import Derived.Test.YtdjfcddmbhfpnaaP13
import Derived.Test.YtdjfcddmbhfpnaaP14
namespace Go.Proofs.Ytdjfcddmbhfpnaa.P
open Go.RowKit Go.Proofs.YtdjfcddmbhfpnaaW.PrintWords Go.Proofs.YtdjfcddmbhfpnaaW.PrintLast Go.Proofs.YtdjfcddmbhfpnaaW.PrintMore
attribute [local go_sem] max2_int min2_int max_two min_two max_three min_three max_four min_four   -- for this text's walks alone
set_option linter.unusedVariables false
set_option linter.unusedSimpArgs false

/-! ### impl_CirclesUpTo: function 7 -/
/-! A map keyed by circles that the call keeps to itself: the set of the circles that were met. -/
instance dec39 : DecidableEq S39 := fun a b => decidable_of_iff (a.f0 = b.f0 ∧ a.f1 = b.f1 ∧ a.f2 = b.f2 ∧ a.f3 = b.f3) ⟨fun h => by obtain ⟨a0, a1, a2, a3⟩ := a; obtain ⟨b0, b1, b2, b3⟩ := b; obtain ⟨h0, h1, h2, h3⟩ := h; simp only at h0 h1 h2 h3; subst h0; subst h1; subst h2; subst h3; rfl, fun h => by subst h; exact ⟨rfl, rfl, rfl, rfl⟩⟩
def cv (c : S39) : Value := .agg #[.int .i64 c.f0, .int .i64 c.f1, .int .i64 c.f2, .int .i64 c.f3]
/-- Block b is a map whose keys are these circles, in this order; each holds true. -/
def SetAt (w : World) (b : Nat) (xs : List S39) : Prop := ∃ (es : Array MapEntry) (clock : Nat), w.heap[b]? = some (.map es clock) ∧ es.toList.map (fun e => (e.key, e.val)) = xs.map (fun x => (cv x, Value.bool true))
theorem eq39 (d : Nat) (a b : S39) (W : World) : (Op.equalIn (d + 2) 39 (cv a) (cv b)).run Try.prog W = .ok (decide (a = b)) W := by
  have hu : Try.prog.underlying 39 = some _ := Try.underlying39
  have h := eqA_of (P := Try.prog) (d := d + 1) (t := 39) (xs := #[.int .i64 a.f0, .int .i64 a.f1, .int .i64 a.f2, .int .i64 a.f3]) (ys := #[.int .i64 b.f0, .int .i64 b.f1, .int .i64 b.f2, .int .i64 b.f3]) (r := (a.f0 == b.f0) && ((a.f1 == b.f1) && ((a.f2 == b.f2) && (a.f3 == b.f3)))) (w := W) hu (by kernel_rfl)
    (eqf_cons (by decide) (by kernel_rfl) (by kernel_rfl) (run_equalIn_int W d 3 .i64 .i64 _ _ Try.underlying3)
    (eqf_cons (by decide) (by kernel_rfl) (by kernel_rfl) (run_equalIn_int W d 3 .i64 .i64 _ _ Try.underlying3)
    (eqf_cons (by decide) (by kernel_rfl) (by kernel_rfl) (run_equalIn_int W d 3 .i64 .i64 _ _ Try.underlying3)
    (eqf_last (by decide) (by kernel_rfl) (by kernel_rfl) (run_equalIn_int W d 3 .i64 .i64 _ _ Try.underlying3)))))
  have e : ((a.f0 == b.f0) && ((a.f1 == b.f1) && ((a.f2 == b.f2) && (a.f3 == b.f3)))) = decide (a = b) := by
    obtain ⟨a0, a1, a2, a3⟩ := a
    obtain ⟨b0, b1, b2, b3⟩ := b
    simp only [S39.mk.injEq]
    by_cases h0 : a0 = b0 <;> by_cases h1 : a1 = b1 <;> by_cases h2 : a2 = b2 <;> by_cases h3 : a3 = b3 <;> simp [h0, h1, h2, h3]
  rw [← e]
  exact h
theorem find_ask (c : S39) (W : World) : ∀ (xs : List S39) (es : List MapEntry) (i : Nat), es.map (fun e => (e.key, e.val)) = xs.map (fun x => (cv x, Value.bool true)) →
    (c ∉ xs → (Instr.findAsking 39 (cv c) es i).run Try.prog W = .ok none W) ∧ (c ∈ xs → ∃ j, (Instr.findAsking 39 (cv c) es i).run Try.prog W = .ok (some (j, .bool true)) W)
  | [], [], i, _ => ⟨fun _ => rfl, fun h => by simp at h⟩
  | [], e :: es, i, h => by simp at h
  | x :: xs, [], i, h => by simp at h
  | x :: xs, e :: es, i, h => by
    simp only [List.map_cons, List.cons.injEq, Prod.mk.injEq] at h
    obtain ⟨⟨h1, h2⟩, h3⟩ := h
    have ih := find_ask c W xs es (i + 1) h3
    have he : (Op.equal 39 (cv c) e.key).run Try.prog W = .ok (decide (c = x)) W := by rw [h1]; exact eq39 _ c x W
    by_cases hx : c = x
    · subst hx
      refine ⟨fun hn => absurd (List.mem_cons_self) hn, fun _ => ⟨i, ?_⟩⟩
      rw [Instr.findAsking]
      simp [he, Result.andThen, h2]
    · refine ⟨fun hn => ?_, fun hm => ?_⟩
      · rw [Instr.findAsking]
        simp [he, hx, Result.andThen, ih.1 (fun h => hn (List.mem_cons_of_mem _ h))]
      · obtain ⟨j, hj⟩ := ih.2 ((List.mem_cons.1 hm).resolve_left hx)
        refine ⟨j, ?_⟩
        rw [Instr.findAsking]
        simp [he, hx, Result.andThen, hj]
theorem find_key (c : S39) (W : World) (xs : List S39) (es : List MapEntry) (h : es.map (fun e => (e.key, e.val)) = xs.map (fun x => (cv x, Value.bool true))) :
    (c ∉ xs → (Instr.findKey 39 (cv c) es).run Try.prog W = .ok none W) ∧ (c ∈ xs → ∃ j, (Instr.findKey 39 (cv c) es).run Try.prog W = .ok (some (j, .bool true)) W) := by
  have ha := find_ask c W xs es 0 h
  cases es with
  | nil =>
    have hx : xs = [] := by
      cases xs with
      | nil => rfl
      | cons x xs => simp at h
    subst hx
    refine ⟨fun _ => ?_, fun h => by simp at h⟩
    unfold Instr.findKey
    simp [run_underlying Try.underlying39, Instr.findNow, Result.andThen]
  | cons e es =>
    have hk : e.key = cv (xs.headD c) := by
      cases xs with
      | nil => simp at h
      | cons x xs => simp only [List.map_cons, List.cons.injEq, Prod.mk.injEq] at h; exact h.1.1
    have hn : ∀ d, Instr.findNow (.struct d) (cv c) (e :: es) 0 = none := by
      intro d
      rw [Instr.findNow, hk]
      rfl
    unfold Instr.findKey
    refine ⟨fun hm => ?_, fun hm => ?_⟩
    · simp [run_underlying Try.underlying39, hn, Result.andThen, ha.1 hm]
    · obtain ⟨j, hj⟩ := ha.2 hm
      refine ⟨j, ?_⟩
      simp [run_underlying Try.underlying39, hn, Result.andThen, hj]
theorem chk39 (em : Bool) (c : S39) (W : World) : (Instr.checkKey em 10000 39 (cv c)).run Try.prog W = .ok () W := by
  cases em <;> kernel_rfl
theorem zero4 (W : World) : (zeroValue 4).run Try.prog W = .ok (.bool false) W := by kernel_rfl
theorem set_look {W : World} {b : Nat} {xs : List S39} (h : SetAt W b xs) (c : S39) : (Instr.lookup 47 (.map (some b)) (cv c) false).run Try.prog W = .ok (.bool (decide (c ∈ xs))) W := by
  obtain ⟨es, clock, hb, hk⟩ := h
  have hf := find_key c W xs es.toList hk
  by_cases hm : c ∈ xs
  · obtain ⟨j, hj⟩ := hf.2 hm
    simp [Instr.lookup, run_underlying Try.underlying47, MapKept.run_getObj_map hb, chk39, hj, Result.andThen, hm]
  · simp [Instr.lookup, run_underlying Try.underlying47, MapKept.run_getObj_map hb, chk39, hf.1 hm, zero4, Result.andThen, hm]
theorem set_put {W : World} {b : Nat} {xs : List S39} (h : SetAt W b xs) (c : S39) (hm : c ∉ xs) :
    ∃ W', (Instr.mapUpdate 47 (.map (some b)) (cv c) (.bool true)).run Try.prog W = .ok () W' ∧ SetAt W' b (xs ++ [c]) ∧ (∀ i, i ≠ b → W'.heap[i]? = W.heap[i]?) ∧ W'.heap.size = W.heap.size ∧ W'.os = W.os ∧ W'.tape = W.tape ∧ W'.output = W.output := by
  obtain ⟨es, clock, hb, hk⟩ := h
  have hf := find_key c W xs es.toList hk
  refine ⟨ChangeMaps.setBlock W b (.map (es.push ⟨cv c, .bool true, clock⟩) (clock + 1)), ?_, ⟨_, _, ChangeMaps.heap_setBlock_same hb _, ?_⟩, fun i hi => ChangeMaps.heap_setBlock_other hb _ hi, ?_, rfl, rfl, rfl⟩
  · simp [Instr.mapUpdate, run_underlying Try.underlying47, MapKept.run_getObj_map hb, chk39, hf.1 hm, MapKept.run_setObj_map _ hb, Result.andThen, ChangeMaps.setBlock]
  · simp [hk]
  · simp [ChangeMaps.setBlock]
theorem set_step {W W' : World} {b : Nat} {xs : List S39} (h : SetAt W b xs) (he : W'.heap[b]? = W.heap[b]?) : SetAt W' b xs := by
  obtain ⟨es, clock, hb, hk⟩ := h
  exact ⟨es, clock, he.trans hb, hk⟩
theorem set_lt {W : World} {b : Nat} {xs : List S39} (h : SetAt W b xs) : b < W.heap.size := by
  obtain ⟨es, clock, hb, hk⟩ := h
  exact (Array.getElem?_eq_some_iff.1 hb).1
/-- What the closure answers, and what the list is behind it. -/
def vis (most : Int) (xs : List S39) (c : S39) : List S39 × Bool := if c.f1 > most then (xs, false) else (if c ∈ xs then (xs, false) else (xs ++ [c], true))
set_option maxHeartbeats 8000000 in
set_option maxRecDepth 100000 in
theorem circFound.calls (gm gt go bm : Nat) (u : Value) (xs : List S39) (most : Int) (c : S39) (w0 w : World) (hB : Below w0.heap.size w0 w) (hgo : w0.heap.size ≤ go) (hbm : w0.heap.size ≤ bm)
    (bM : w.heap[gm]? = some (.cells #[.int .i64 most] 3 (0, 0))) (bT : w.heap[gt]? = some (.cells #[.map (some bm)] 47 (0, 0))) (bO : w.heap[go]? = some (.cells #[u] 24 (0, 0)))
    (hS : SetAt w bm xs) (hO : Kd.R k39 39 w w0.heap.size (fun k_ => w0.heap.size ≤ k_) u xs) (hl : xs.length < 4398046511104) :
    Calls Try.prog 26 #[.agg #[.int .i64 c.f0, .int .i64 c.f1, .int .i64 c.f2, .int .i64 c.f3], .pointer (some ⟨gm, 0, none⟩), .pointer (some ⟨gt, 0, none⟩), .pointer (some ⟨go, 0, none⟩)] w fun e w' => e = .returned (.bool (vis most xs c).2) ∧ ∃ u' : Value, w'.heap[go]? = some (.cells #[u'] 24 (0, 0)) ∧ SetAt w' bm (vis most xs c).1 ∧
      Kd.R k39 39 w' w0.heap.size (fun k_ => w0.heap.size ≤ k_) u' (vis most xs c).1 ∧ Below w0.heap.size w0 w' ∧ Kept w w' (fun k_ => k_ = go ∨ k_ = bm ∨ some k_ = u.ownBlock) ∧ (u'.ownBlock = u.ownBlock ∨ ∃ b, u'.ownBlock = some b ∧ w.heap.size ≤ b) := by
  have hu39 := Try.underlying39
  have HB := Aside0.mk hB
  have GO := Aside0.mk hgo
  have GB := Aside0.mk hbm
  have BM := Aside0.mk bM
  have BT := Aside0.mk bT
  have BO := Aside0.mk bO
  have HS := Aside0.mk hS
  have HO := Aside0.mk hO
  have LM := Aside0.mk hl
  clear hB hgo hbm bM bT bO hS hO hl
  obtain ⟨Au, cu, eu⟩ := Kd.R_slice HO.out
  subst eu
  by_cases c1 : c.f1 > most
  · have ev : vis most xs c = (xs, false) := by unfold vis; rw [if_pos c1]
    rw [ev]
    have c1b : decide (most < c.f1) = true := decide_eq_true c1
    clear c1 ev
    go_enter Try.func26, Try.ntmps26
    go_wp2_with ((with_reducible refine gate_dst (N := 4) rfl ?_); refine box_event ?hg (N := 4) ?hd (cs := #[.int .i64 c.f0, .int .i64 c.f1, .int .i64 c.f2, .int .i64 c.f3]) (t := 39) ?hr ?_; (case hd => rfl); (case hg => rfl); (case hr => first | (go_simp; done) | (go_simp; rfl)); intro gb hg w1 hbox hb; have HB1 := Aside0.mk hb; have BX := Aside0.mk hbox; clear hb hbox hg; have hcx0 : w1.cell? ⟨gb, 0, none⟩ = some (.int .i64 c.f0) := (blk_cell BX.out 0).trans rfl; have hcx1 : w1.cell? ⟨gb, 1, none⟩ = some (.int .i64 c.f1) := (blk_cell BX.out 1).trans rfl; have hcx2 : w1.cell? ⟨gb, 2, none⟩ = some (.int .i64 c.f2) := (blk_cell BX.out 2).trans rfl; have hcx3 : w1.cell? ⟨gb, 3, none⟩ = some (.int .i64 c.f3) := (blk_cell BX.out 3).trans rfl; have hcm : w1.cell? ⟨gm, 0, none⟩ = some (.int .i64 most) := (blk_cell (blk_below BM.out HB1.out) 0).trans rfl)
    go_ret
    exact ⟨rfl, _, blk_below BO.out HB1.out, set_step HS.out (HB1.out.block _ (set_lt HS.out)), Kd.R_below HO.out HB1.out, below_step HB.out HB1.out, Kept.of_below HB1.out _, .inl rfl⟩
  · by_cases c2 : c ∈ xs
    · have ev : vis most xs c = (xs, false) := by unfold vis; rw [if_neg c1, if_pos c2]
      rw [ev]
      have HLK : ∀ w1 : World, SetAt w1 bm xs → (Instr.lookup 47 (.map (some bm)) (.agg #[.int .i64 c.f0, .int .i64 c.f1, .int .i64 c.f2, .int .i64 c.f3]) false).run Try.prog w1 = .ok (.bool true) w1 := by
        intro w1 h1
        have h_ := set_look h1 c
        rw [decide_eq_true c2] at h_
        exact h_
      have c1b : decide (most < c.f1) = false := decide_eq_false c1
      clear c1 ev
      go_enter Try.func26, Try.ntmps26
      go_wp2_with ((with_reducible refine gate_dst (N := 4) rfl ?_); refine box_event ?hg (N := 4) ?hd (cs := #[.int .i64 c.f0, .int .i64 c.f1, .int .i64 c.f2, .int .i64 c.f3]) (t := 39) ?hr ?_; (case hd => rfl); (case hg => rfl); (case hr => first | (go_simp; done) | (go_simp; rfl)); intro gb hg w1 hbox hb; have HB1 := Aside0.mk hb; have BX := Aside0.mk hbox; clear hb hbox hg; have hcx0 : w1.cell? ⟨gb, 0, none⟩ = some (.int .i64 c.f0) := (blk_cell BX.out 0).trans rfl; have hcx1 : w1.cell? ⟨gb, 1, none⟩ = some (.int .i64 c.f1) := (blk_cell BX.out 1).trans rfl; have hcx2 : w1.cell? ⟨gb, 2, none⟩ = some (.int .i64 c.f2) := (blk_cell BX.out 2).trans rfl; have hcx3 : w1.cell? ⟨gb, 3, none⟩ = some (.int .i64 c.f3) := (blk_cell BX.out 3).trans rfl; have hcm : w1.cell? ⟨gm, 0, none⟩ = some (.int .i64 most) := (blk_cell (blk_below BM.out HB1.out) 0).trans rfl; have hct : w1.cell? ⟨gt, 0, none⟩ = some (.map (some bm)) := (blk_cell (blk_below BT.out HB1.out) 0).trans rfl; have hlk : (Instr.lookup 47 (.map (some bm)) (.agg #[.int .i64 c.f0, .int .i64 c.f1, .int .i64 c.f2, .int .i64 c.f3]) false).run Try.prog w1 = .ok (.bool true) w1 := HLK w1 (set_step HS.out (HB1.out.block _ (set_lt HS.out))))
      go_ret
      exact ⟨rfl, _, blk_below BO.out HB1.out, set_step HS.out (HB1.out.block _ (set_lt HS.out)), Kd.R_below HO.out HB1.out, below_step HB.out HB1.out, Kept.of_below HB1.out _, .inl rfl⟩
    · have ev : vis most xs c = (xs ++ [c], true) := by unfold vis; rw [if_neg c1, if_neg c2]
      rw [ev]
      have HLK : ∀ w1 : World, SetAt w1 bm xs → (Instr.lookup 47 (.map (some bm)) (.agg #[.int .i64 c.f0, .int .i64 c.f1, .int .i64 c.f2, .int .i64 c.f3]) false).run Try.prog w1 = .ok (.bool false) w1 := by
        intro w1 h1
        have h_ := set_look h1 c
        rw [decide_eq_false c2] at h_
        exact h_
      have c1b : decide (most < c.f1) = false := decide_eq_false c1
      clear c1 ev
      have PUT : ∀ w1 : World, Below w.heap.size w w1 → ∃ w2 : World, (Instr.mapUpdate 47 (.map (some bm)) (.agg #[.int .i64 c.f0, .int .i64 c.f1, .int .i64 c.f2, .int .i64 c.f3]) (.bool true)).run Try.prog w1 = .ok () w2 ∧ SetAt w2 bm (xs ++ [c]) ∧ (∀ (i t : Nat) (cs : Array Value), w1.heap[i]? = some (Obj.cells cs t (0, 0)) → w2.heap[i]? = some (Obj.cells cs t (0, 0))) ∧
          Kd.R k39 39 w2 w0.heap.size (fun k_ => w0.heap.size ≤ k_) (.slice Au xs.length cu) xs ∧ Below w0.heap.size w0 w2 ∧ Kept w w2 (fun k_ => k_ = go ∨ k_ = bm ∨ some k_ = (Value.slice Au xs.length cu).ownBlock) ∧ w.heap.size ≤ w2.heap.size := by
        intro w1 hb
        have hS1 := set_step HS.out (hb.block _ (set_lt HS.out))
        obtain ⟨w2, hup, hS2, hot, hsz, ho1, ho2, ho3⟩ := set_put hS1 c c2
        have hne : ∀ (i t : Nat) (cs : Array Value), w1.heap[i]? = some (Obj.cells cs t (0, 0)) → i ≠ bm := by
          intro i t cs hi e
          subst e
          obtain ⟨es, cl, hm, _⟩ := hS1
          rw [hi] at hm
          cases hm
        have hB1 := below_step HB.out hb
        refine ⟨w2, hup, hS2, fun i t cs hi => (hot i (hne _ _ _ hi)).trans hi, ?_, ⟨ho1.trans hB1.os, ho2.trans hB1.tape, ho3.trans hB1.output, by have := hB1.size; omega, fun k hk => (hot k (by have := GB.out; omega)).trans (hB1.block k hk)⟩, ⟨by have := hb.size; omega, fun i hi hn => (hot i (fun e => hn (.inr (.inl e)))).trans (hb.block i hi)⟩, by have := hb.size; omega⟩
        exact Kd.R_mono (Kd.R_step (Kd.R_bound (Kd.R_below HO.out hb)) (fun k hk _ => by
          obtain ⟨_, _, _, q, _, cells, hc⟩ := hk
          exact hot k (hne _ _ _ hc))) (fun k hk => hk.1)
      go_enter Try.func26, Try.ntmps26
      go_wp2_with (first
        | ((with_reducible refine gate_dst (N := 4) rfl ?_); refine box_event ?hg (N := 4) ?hd (cs := #[.int .i64 c.f0, .int .i64 c.f1, .int .i64 c.f2, .int .i64 c.f3]) (t := 39) ?hr ?_; (case hd => rfl); (case hg => rfl); (case hr => first | (go_simp; done) | (go_simp; rfl)); intro gb hg w1 hbox hb; have HB1 := Aside0.mk hb; have BX := Aside0.mk hbox; clear hb hbox hg; have hcx0 : w1.cell? ⟨gb, 0, none⟩ = some (.int .i64 c.f0) := (blk_cell BX.out 0).trans rfl; have hcx1 : w1.cell? ⟨gb, 1, none⟩ = some (.int .i64 c.f1) := (blk_cell BX.out 1).trans rfl; have hcx2 : w1.cell? ⟨gb, 2, none⟩ = some (.int .i64 c.f2) := (blk_cell BX.out 2).trans rfl; have hcx3 : w1.cell? ⟨gb, 3, none⟩ = some (.int .i64 c.f3) := (blk_cell BX.out 3).trans rfl; have hcm : w1.cell? ⟨gm, 0, none⟩ = some (.int .i64 most) := (blk_cell (blk_below BM.out HB1.out) 0).trans rfl; have hct : w1.cell? ⟨gt, 0, none⟩ = some (.map (some bm)) := (blk_cell (blk_below BT.out HB1.out) 0).trans rfl; have hlk : (Instr.lookup 47 (.map (some bm)) (.agg #[.int .i64 c.f0, .int .i64 c.f1, .int .i64 c.f2, .int .i64 c.f3]) false).run Try.prog w1 = .ok (.bool false) w1 := HLK w1 (set_step HS.out (HB1.out.block _ (set_lt HS.out))); obtain ⟨w2, hup, hS2, hot, hO2, hB2, hK2, hW2⟩ := PUT w1 HB1.out; have BX2 := Aside0.mk (hot _ _ _ BX.out); have BO2 := Aside0.mk (hot _ _ _ (blk_below BO.out HB1.out)); have HS2 := Aside0.mk hS2; have HO2 := Aside0.mk hO2; have HB2 := Aside0.mk hB2; have HK2 := Aside0.mk hK2; have HW2 := Aside0.mk hW2; clear hS2 hot hO2 hB2 hK2 hW2; have hdx0 : w2.cell? ⟨gb, 0, none⟩ = some (.int .i64 c.f0) := (blk_cell BX2.out 0).trans rfl; have hdx1 : w2.cell? ⟨gb, 1, none⟩ = some (.int .i64 c.f1) := (blk_cell BX2.out 1).trans rfl; have hdx2 : w2.cell? ⟨gb, 2, none⟩ = some (.int .i64 c.f2) := (blk_cell BX2.out 2).trans rfl; have hdx3 : w2.cell? ⟨gb, 3, none⟩ = some (.int .i64 c.f3) := (blk_cell BX2.out 3).trans rfl; have hdo : w2.cell? ⟨go, 0, none⟩ = some (.slice Au xs.length cu) := (blk_cell BO2.out 0).trans rfl)
        | ((with_reducible refine gate_builtin (b := .append) (xs := #[.tmp 17, .tmp 19]) rfl ?_); at_builtin; refine Kd.R_append k39 (w0 := w0) w0.heap.size rfl (.tmp 17) (.tmp 19) 24 39 (.agg #[(.int .i64 0), (.int .i64 0), (.int .i64 0), (.int .i64 0)]) 32 rfl Try.underlying24 info39 rfl (by decide) (by omega) (.slice Au xs.length cu) xs c [.int .i64 c.f0, .int .i64 c.f1, .int .i64 c.f2, .int .i64 c.f3] (fun k_ => w0.heap.size ≤ k_) (fun _ => False) rfl rfl ?aP (fun _ hk => hk.elim) ?aF ?aO ?aB ?aS ?aL ?_; (case aP => exact k39_mkM _ _ _ c); (case aB => exact (by repeat (first | (with_reducible first | exact HB2.out | apply below_alloc | apply pw_below_drewN | apply below_drew1) | exact HB2.out))); (case aF => exact (fun k_ hk => Nat.le_trans (below_size (by repeat (first | (with_reducible first | exact HB2.out | apply below_alloc | apply pw_below_drewN | apply below_drew1) | exact HB2.out))) hk)); (case aO => exact (by (with_reducible repeat (first | apply Kd.R_alloc | apply Kd.R_drewN | apply Kd.R_drew)); exact HO2.out)); (case aS => exact (below_size (by repeat (first | (with_reducible first | exact HB2.out | apply below_alloc | apply pw_below_drewN | apply below_drew1) | exact HB2.out)))); (case aL => have := LM.out; omega); intro v1 w3 ho hb hg hat; have HK3 := Aside0.mk (Kept.of_grown hg HK2.out (fun k hk => .inl (.inr (.inr hk.symm)))); have BO3 := Aside0.mk (blk_grown BO2.out hg (Kd.R_ne HO2.out BO2.out (by decide))); have HB3 := Aside0.mk hb; have HO3 := Aside0.mk ho; have HS3 := Aside0.mk (set_step HS2.out (hg.block bm (set_lt HS2.out) (fun e => by obtain ⟨es, cl, hm, _⟩ := HS2.out; obtain ⟨cells, hc⟩ := Kd.R_typed HO2.out bm e.symm; rw [hc] at hm; cases hm))); have HAT := Aside0.mk hat; clear ho hb hg hat; have hcz3 : w3.cell? ⟨go, 0, none⟩ = some (.slice Au xs.length cu) := (blk_cell BO3.out 0).trans rfl; have hfz3 := blk_frozen BO3.out 0; obtain ⟨Av, cvv, evv⟩ := Kd.R_slice HO3.out; subst evv))
      go_ret
      exact ⟨rfl, _, by refine blk_put (cs := #[.slice Au xs.length cu]) ?_ 0 _ (by simp); exact BO3.out, set_step HS3.out (by refine Below.heap_setCell _ _ _ _ ?_; intro e; obtain ⟨es, cl, hm, _⟩ := HS3.out; have h2 := BO3.out; rw [show bm = go from e, h2] at hm; cases hm), Kd.R_mono (Kd.R_far (p := ⟨go, 0, none⟩) (Kd.R_types HO3.out BO3.out (by decide)) (fun _ hk => hk.2) _) (fun _ hk => hk.1), below_set HB3.out GO.out, Kept.setCell HK3.out (.inl (.inl rfl)) _, HAT.out.imp id (fun ⟨b, h1, h2⟩ => ⟨b, h1, Nat.le_trans HW2.out h2⟩)⟩
/-- The state that the closure and its maker share: three boxes, the set, the list; all behind the heap that the call found. -/
def St (w0 : World) (gm gt go bm : Nat) (most : Int) (u : Value) (xs : List S39) (W : World) : Prop :=
  w0.heap.size ≤ go ∧ w0.heap.size ≤ bm ∧ W.heap[gm]? = some (Obj.cells #[.int .i64 most] 3 (0, 0)) ∧ W.heap[gt]? = some (Obj.cells #[.map (some bm)] 47 (0, 0)) ∧ W.heap[go]? = some (Obj.cells #[u] 24 (0, 0)) ∧
  SetAt W bm xs ∧ Kd.R k39 39 W w0.heap.size (fun k_ => w0.heap.size ≤ k_) u xs ∧ Below w0.heap.size w0 W
section
variable {w0 W W' : World} {gm gt go bm : Nat} {most : Int} {u : Value} {xs : List S39}
theorem St.lt (h : St w0 gm gt go bm most u xs W) : gm < W.heap.size ∧ gt < W.heap.size ∧ go < W.heap.size ∧ bm < W.heap.size ∧ ∀ k, u.ownBlock = some k → k < W.heap.size :=
  ⟨blk_lt h.2.2.1, blk_lt h.2.2.2.1, blk_lt h.2.2.2.2.1, set_lt h.2.2.2.2.2.1, fun k hk => Kd.R_lt h.2.2.2.2.2.2.1 k hk⟩
theorem St.step (h : St w0 gm gt go bm most u xs W) (hm : ∀ k, k < W.heap.size → (k = gm ∨ k = gt ∨ k = go ∨ k = bm ∨ some k = u.ownBlock) → W'.heap[k]? = W.heap[k]?) (hb : Below w0.heap.size w0 W') : St w0 gm gt go bm most u xs W' := by
  obtain ⟨l1, l2, l3, l4, l5⟩ := h.lt
  obtain ⟨h1, h2, h3, h4, h5, h6, h7, h8⟩ := h
  refine ⟨h1, h2, (hm gm l1 (.inl rfl)).trans h3, (hm gt l2 (.inr (.inl rfl))).trans h4, (hm go l3 (.inr (.inr (.inl rfl)))).trans h5, set_step h6 (hm bm l4 (.inr (.inr (.inr (.inl rfl))))), ?_, hb⟩
  exact Kd.R_mono (Kd.R_step (Kd.R_tight2 rfl h7) (fun k hk hlt => hm k hlt (.inr (.inr (.inr (.inr hk.1)))))) (fun k hk => hk.2)
theorem St.below (h : St w0 gm gt go bm most u xs W) (hb : Below W.heap.size W W') : St w0 gm gt go bm most u xs W' := h.step (fun k hk _ => hb.block k hk) (below_step h.2.2.2.2.2.2.2 hb)
/-- A cell of a block that is newer than all of the state's. -/
theorem St.set (h : St w0 gm gt go bm most u xs W) {gb : Nat} (hf : ∀ k, (k = gm ∨ k = gt ∨ k = go ∨ k = bm ∨ some k = u.ownBlock) → k ≠ gb) (hg : w0.heap.size ≤ gb) (i : Nat) (v : Value) : St w0 gm gt go bm most u xs (W.setCell ⟨gb, i, none⟩ v) :=
  h.step (fun k _ hk => Below.heap_setCell W ⟨gb, i, none⟩ v k (hf k hk)) (below_set h.2.2.2.2.2.2.2 hg)
theorem St.newer (h : St w0 gm gt go bm most u xs W) {gb : Nat} (hg : W.heap.size ≤ gb) : (∀ k, (k = gm ∨ k = gt ∨ k = go ∨ k = bm ∨ some k = u.ownBlock) → k ≠ gb) ∧ w0.heap.size ≤ gb := by
  obtain ⟨l1, l2, l3, l4, l5⟩ := h.lt
  refine ⟨?_, by have := below_size h.2.2.2.2.2.2.2; omega⟩
  rintro k (rfl | rfl | rfl | rfl | hk)
  · omega
  · omega
  · omega
  · omega
  · have := l5 k hk.symm; omega
theorem St.queue {base : Nat} {ok : Nat → Prop} {v : Value} {q : List S41} (h : St w0 gm gt go bm most u xs W) (hN : Kd.N k41 49 W base ok v q) (hg : W.grownBy W' v.ownBlock) (hb : Below w0.heap.size w0 W') : St w0 gm gt go bm most u xs W' := by
  refine h.step (fun k hk hs => hg.block k hk (fun e => ?_)) hb
  obtain ⟨cells, hc⟩ := Kd.N_typed hN k e.symm
  obtain ⟨h1, h2, h3, h4, h5, h6, h7, h8⟩ := h
  rcases hs with rfl | rfl | rfl | rfl | hs
  · rw [hc] at h3; cases h3
  · rw [hc] at h4; cases h4
  · rw [hc] at h5; cases h5
  · obtain ⟨es, cl, hm, _⟩ := h6
    rw [hc] at hm; cases hm
  · obtain ⟨cells2, hc2⟩ := Kd.R_typed h7 k hs.symm
    rw [hc] at hc2; cases hc2
end
theorem circVisit.calls (w0 : World) (gm gt go bm : Nat) (most : Int) (u : Value) (xs : List S39) (c : S39) (w : World) (h : St w0 gm gt go bm most u xs w) (hl : xs.length < 4398046511104) :
    Calls Try.prog 26 #[.agg #[.int .i64 c.f0, .int .i64 c.f1, .int .i64 c.f2, .int .i64 c.f3], .pointer (some ⟨gm, 0, none⟩), .pointer (some ⟨gt, 0, none⟩), .pointer (some ⟨go, 0, none⟩)] w fun e w' => e = .returned (.bool (vis most xs c).2) ∧ ∃ u' : Value, St w0 gm gt go bm most u' (vis most xs c).1 w' ∧
      Kept w w' (fun k_ => k_ = go ∨ k_ = bm ∨ some k_ = u.ownBlock) ∧ (u'.ownBlock = u.ownBlock ∨ ∃ b, u'.ownBlock = some b ∧ w.heap.size ≤ b) := by
  have hlt := h.lt
  obtain ⟨h1, h2, h3, h4, h5, h6, h7, h8⟩ := h
  refine (circFound.calls gm gt go bm u xs most c w0 w h8 h1 h2 h3 h4 h5 h6 h7 hl).mono ?_
  rintro e w' ⟨rfl, u', a1, a2, a3, a4, a5, a6⟩
  have hn : ∀ (g t : Nat) (v : Array Value), w.heap[g]? = some (Obj.cells v t (0, 0)) → t ≠ 24 → t ≠ 39 → ¬ (g = go ∨ g = bm ∨ some g = u.ownBlock) := by
    rintro g t v hg n1 n2 (rfl | rfl | hs)
    · rw [hg] at h5; cases h5; exact n1 rfl
    · obtain ⟨es, cl, hm, _⟩ := h6
      rw [hg] at hm; cases hm
    · obtain ⟨cells2, hc2⟩ := Kd.R_typed h7 g hs.symm
      rw [hg] at hc2; cases hc2; exact n2 rfl
  exact ⟨rfl, u', ⟨h1, h2, blk_kept h3 a5 (hn _ _ _ h3 (by decide) (by decide)), blk_kept h4 a5 (hn _ _ _ h4 (by decide) (by decide)), a1, a2, a3, a4⟩, a5, a6⟩
mutual
def impl_CirclesUpTo.l0 : Nat → List S39 → Int → List S39 → Int → Option (List S39 × Bool)
  | 0, _, _, _, _ => none
  | k + 1, x0, a1, x7, i => if i < (x0.length : Int) then (if x7.length < 4398046511104 then (impl_CirclesUpTo.l0 k x0 a1 (vis a1 x7 (rd_T39 x0 i)).1 (wrap64 (i + 1))) else none) else (impl_CirclesUpTo.l1 k a1 x7 [(⟨x0, (-1)⟩ : S41)] 0)
def impl_CirclesUpTo.l1 : Nat → Int → List S39 → List S41 → Int → Option (List S39 × Bool)
  | 0, _, _, _, _ => none
  | k + 1, a1, x7, x10, x11 => if x11 < (x10.length : Int) then (impl_CirclesUpTo.l2 k a1 x7 x10 x11 0) else (some (x7, true))
def impl_CirclesUpTo.l2 : Nat → Int → List S39 → List S41 → Int → Int → Option (List S39 × Bool)
  | 0, _, _, _, _, _ => none
  | k + 1, a1, x7, x10, x11, x12 => (if x12 < 4 then (if 0 ≤ x11 then (if x11 < (x10.length : Int) then (if x12 = (rd_T41 x10 x11).f1 then (impl_CirclesUpTo.l2 k a1 x7 x10 x11 (wrap64 (x12 + 1))) else ((impl_swapCircle.f k ((rd_T41 x10 x11).f0) x12).bind fun t => (if 0 ≤ x12 then (if x12 < (t.1.length : Int) then (if x7.length < 4398046511104 then (if (vis a1 x7 (rd_T39 t.1 x12)).2 = true then (if t.2 = true then (if ((vis a1 x7 (rd_T39 t.1 x12)).1.length : Int) > 300 then (some (([] : List S39), false)) else (if x10.length < 4398046511104 then (impl_CirclesUpTo.l2 k a1 (vis a1 x7 (rd_T39 t.1 x12)).1 (x10 ++ [(⟨t.1, x12⟩ : S41)]) x11 (wrap64 (x12 + 1))) else none)) else (some (([] : List S39), false))) else (impl_CirclesUpTo.l2 k a1 (vis a1 x7 (rd_T39 t.1 x12)).1 x10 x11 (wrap64 (x12 + 1)))) else none) else none) else none))) else none) else none) else (impl_CirclesUpTo.l1 k a1 x7 x10 (wrap64 (x11 + 1))))
end
def impl_CirclesUpTo.f (k : Nat) (l0 : List S39) (a1 : Int) : Option (List S39 × Bool) := ((impl_isConfig.f k l0).bind fun t1 => (if t1 = true then ((impl_within.f a1 1 60).bind fun t2 => (if t2 = true then ((impl_curvatures.f k l0).bind fun q => ((impl_IsQuad.f k q).bind fun t3 => (if t3 = true then ((impl_isRoot.f k q).bind fun t4 => (if t4 = true then ((slices_Min_int_int.f q).bind fun m => (if m ≥ 0 then (some (([] : List S39), false)) else (impl_CirclesUpTo.l0 k l0 a1 [] 0))) else (some (([] : List S39), false)))) else (some (([] : List S39), false))))) else (some (([] : List S39), false)))) else (some (([] : List S39), false))))
theorem impl_CirclesUpTo.mono_l : ∀ k, (∀ y0 y1 y2 y3, LeO (impl_CirclesUpTo.l0 k y0 y1 y2 y3) (impl_CirclesUpTo.l0 (k + 1) y0 y1 y2 y3)) ∧ (∀ y0 y1 y2 y3, LeO (impl_CirclesUpTo.l1 k y0 y1 y2 y3) (impl_CirclesUpTo.l1 (k + 1) y0 y1 y2 y3)) ∧ (∀ y0 y1 y2 y3 y4, LeO (impl_CirclesUpTo.l2 k y0 y1 y2 y3 y4) (impl_CirclesUpTo.l2 (k + 1) y0 y1 y2 y3 y4))
  | 0 => ⟨fun _ _ _ _ r h => by simp [impl_CirclesUpTo.l0] at h, fun _ _ _ _ r h => by simp [impl_CirclesUpTo.l1] at h, fun _ _ _ _ _ r h => by simp [impl_CirclesUpTo.l2] at h⟩
  | k + 1 => by
    obtain ⟨ih0, ih1, ih2⟩ := impl_CirclesUpTo.mono_l k
    refine ⟨?_, ?_, ?_⟩
    · intro y0 y1 y2 y3
      rw [impl_CirclesUpTo.l0, impl_CirclesUpTo.l0]
      exact LeO.ite (LeO.ite (ih0 _ _ _ _) (LeO.none _)) (ih1 _ _ _ _)
    · intro y0 y1 y2 y3
      rw [impl_CirclesUpTo.l1, impl_CirclesUpTo.l1]
      exact LeO.ite (ih2 _ _ _ _ _) (LeO.refl _)
    · intro y0 y1 y2 y3 y4
      rw [impl_CirclesUpTo.l2, impl_CirclesUpTo.l2]
      exact LeO.ite (LeO.ite (LeO.ite (LeO.ite (ih2 _ _ _ _ _) (LeO.bind (impl_swapCircle.mono _ _ _) (fun _ => LeO.ite (LeO.ite (LeO.ite (LeO.ite (LeO.ite (LeO.ite (LeO.refl _) (LeO.ite (ih2 _ _ _ _ _) (LeO.none _))) (LeO.refl _)) (ih2 _ _ _ _ _)) (LeO.none _)) (LeO.none _)) (LeO.none _)))) (LeO.none _)) (LeO.none _)) (ih1 _ _ _ _)
theorem impl_CirclesUpTo.mono : ∀ a0 a1 k, LeO (impl_CirclesUpTo.f k a0 a1) (impl_CirclesUpTo.f (k + 1) a0 a1) := by
  intro a0 a1 k
  unfold impl_CirclesUpTo.f
  exact LeO.bind (impl_isConfig.mono _ _) (fun _ => LeO.ite (LeO.bind (LeO.refl _) (fun _ => LeO.ite (LeO.bind (impl_curvatures.mono _ _) (fun _ => LeO.bind (impl_IsQuad.mono _ _) (fun _ => LeO.ite (LeO.bind (impl_isRoot.mono _ _) (fun _ => LeO.ite (LeO.bind (LeO.refl _) (fun _ => LeO.ite (LeO.refl _) ((impl_CirclesUpTo.mono_l k).1 _ _ _ _))) (LeO.refl _))) (LeO.refl _)))) (LeO.refl _))) (LeO.refl _))
/-- The blocks that hold the queue's rows: none of the closure's. -/
def OKQ (go bm : Nat) (u : Value) (k : Nat) : Prop := k ≠ go ∧ k ≠ bm ∧ some k ≠ u.ownBlock
theorem okq_new {w0 W : World} {gm gt go bm : Nat} {most : Int} {u : Value} {xs : List S39} (h : St w0 gm gt go bm most u xs W) {k : Nat} (hk : W.heap.size ≤ k) : OKQ go bm u k := by
  obtain ⟨l1, l2, l3, l4, l5⟩ := h.lt
  exact ⟨by omega, by omega, fun e => by have := l5 k e.symm; omega⟩
theorem okq_old {w0 W : World} {gm gt go bm : Nat} {most : Int} {u : Value} {xs : List S39} (h : St w0 gm gt go bm most u xs W) {k : Nat} (hk : k < w0.heap.size) : OKQ go bm u k := by
  obtain ⟨h1, h2, h3, h4, h5, h6, h7, h8⟩ := h
  exact ⟨by omega, by omega, fun e => by have := h7.1 k e.symm; omega⟩
/-- Behind the closure: the queue stands, and its rows are none of the closure's. -/
theorem okq_queue {W W' : World} {go bm base : Nat} {u u2 v : Value} {q : List S41} (h : Kd.N k41 49 W base (OKQ go bm u) v q) (hk : Kept W W' (fun k_ => k_ = go ∨ k_ = bm ∨ some k_ = u.ownBlock)) (hat : u2.ownBlock = u.ownBlock ∨ ∃ b, u2.ownBlock = some b ∧ W.heap.size ≤ b) : Kd.N k41 49 W' base (OKQ go bm u2) v q := by
  refine Kd.N_mono (Kd.N_keptB h hk (fun k ho hs => hs.elim ho.1 (fun hs => hs.elim ho.2.1 ho.2.2))) (fun k hk => ⟨hk.1.1, hk.1.2.1, fun e => ?_⟩)
  rcases hat with ha | ⟨b, hb, hl⟩
  · exact hk.1.2.2 (e.trans ha)
  · rw [hb] at e
    cases e
    have := hk.2.2
    omega
theorem okq_next {w0 V W W' : World} {gm gt go bm base : Nat} {most : Int} {u u2 v : Value} {xs : List S39} {nx : List S39} (h : St w0 gm gt go bm most u xs V) (hn : Kd.R k39 39 W base (fun k_ => V.heap.size ≤ k_ ∧ k_ < W.heap.size) v nx) (hk : Kept W W' (fun k_ => k_ = go ∨ k_ = bm ∨ some k_ = u.ownBlock)) (hat : u2.ownBlock = u.ownBlock ∨ ∃ b, u2.ownBlock = some b ∧ W.heap.size ≤ b) : Kd.R k39 39 W' base (OKQ go bm u2) v nx := by
  obtain ⟨l1, l2, l3, l4, l5⟩ := h.lt
  refine Kd.R_mono (Kd.R_kept hn hk (fun k ho hs => ?_)) (fun k ho => ⟨by omega, by omega, fun e => ?_⟩)
  · rcases hs with rfl | rfl | hs
    · omega
    · omega
    · have := l5 k hs.symm; omega
  · rcases hat with ha | ⟨b, hb, hl⟩
    · have := l5 k (e.trans ha).symm; omega
    · rw [hb] at e
      cases e
      omega
theorem St.start {w0 W : World} {gm gt go bm : Nat} {most : Int} {u x y : Value} {xs : List S39} (h1 : w0.heap.size ≤ go) (h2 : w0.heap.size ≤ bm) (h0 : w0.heap.size ≤ gt) (h3 : W.heap[gm]? = some (Obj.cells #[.int .i64 most] 3 (0, 0))) (h4 : W.heap[gt]? = some (Obj.cells #[x] 47 (0, 0))) (h5 : W.heap[go]? = some (Obj.cells #[y] 24 (0, 0)))
    (h6 : SetAt W bm xs) (h7 : Kd.R k39 39 W w0.heap.size (fun k_ => w0.heap.size ≤ k_) u xs) (h8 : Below w0.heap.size w0 W) : St w0 gm gt go bm most u xs ((W.setCell ⟨go, 0, none⟩ u).setCell ⟨gt, 0, none⟩ (.map (some bm))) := by
  have ne : ∀ {i j t s : Nat} {a b : Array Value} {X : World}, X.heap[i]? = some (Obj.cells a t (0, 0)) → X.heap[j]? = some (Obj.cells b s (0, 0)) → t ≠ s → i ≠ j := by
    intro i j t s a b X ha hb hts e
    subst e
    rw [ha] at hb
    cases hb
    exact hts rfl
  have neM : ∀ {i t : Nat} {a : Array Value} {X : World}, X.heap[i]? = some (Obj.cells a t (0, 0)) → SetAt X bm xs → bm ≠ i := by
    intro i t a X ha hb e
    subst e
    obtain ⟨es, cl, hm, _⟩ := hb
    rw [ha] at hm
    cases hm
  have g3 : (W.setCell ⟨go, 0, none⟩ u).heap[gm]? = some (Obj.cells #[.int .i64 most] 3 (0, 0)) := (Below.heap_setCell _ ⟨go, 0, none⟩ _ _ (ne h3 h5 (by decide))).trans h3
  have g4 : (W.setCell ⟨go, 0, none⟩ u).heap[gt]? = some (Obj.cells #[x] 47 (0, 0)) := (Below.heap_setCell _ ⟨go, 0, none⟩ _ _ (ne h4 h5 (by decide))).trans h4
  have g5 : (W.setCell ⟨go, 0, none⟩ u).heap[go]? = some (Obj.cells #[u] 24 (0, 0)) := blk_put (cs := #[y]) h5 0 _ (by simp)
  have g6 : SetAt (W.setCell ⟨go, 0, none⟩ u) bm xs := set_step h6 (Below.heap_setCell _ ⟨go, 0, none⟩ _ _ (neM h5 h6))
  have g7 : Kd.R k39 39 (W.setCell ⟨go, 0, none⟩ u) w0.heap.size (fun k_ => w0.heap.size ≤ k_) u xs := Kd.R_mono (Kd.R_far (p := ⟨go, 0, none⟩) (Kd.R_types h7 h5 (by decide)) (fun _ hk => hk.2) _) (fun _ hk => hk.1)
  have g8 : Below w0.heap.size w0 (W.setCell ⟨go, 0, none⟩ u) := below_set h8 h1
  refine ⟨h1, h2, (Below.heap_setCell _ ⟨gt, 0, none⟩ _ _ (ne g3 g4 (by decide))).trans g3, blk_put (cs := #[x]) g4 0 _ (by simp), (Below.heap_setCell _ ⟨gt, 0, none⟩ _ _ (ne g5 g4 (by decide))).trans g5, set_step g6 (Below.heap_setCell _ ⟨gt, 0, none⟩ _ _ (neM g4 g6)), ?_, below_set g8 h0⟩
  exact Kd.R_mono (Kd.R_far (p := ⟨gt, 0, none⟩) (Kd.R_types g7 g4 (by decide)) (fun _ hk => hk.2) _) (fun _ hk => hk.1)
set_option maxHeartbeats 8000000 in
set_option maxRecDepth 100000 in
theorem impl_CirclesUpTo.calls (k : Nat) (A0 : Option Addr) (c0 : Nat) (l0 : List S39) (a1 : Int) (r1 : List S39) (r2 : Bool) (w : World) (hr0 : Kd.C k39 w A0 l0.length l0) (hc0 : l0.length ≤ c0) (h : impl_CirclesUpTo.f k l0 a1 = some (r1, r2)) :
    Calls Try.prog 7 #[.slice A0 l0.length c0, .int .i64 a1] w fun e w' => ∃ v0_ : Value, e = .returned (.tuple #[v0_, .bool r2]) ∧ Kd.R k39 39 w' w.heap.size (fun _ => True) v0_ r1 ∧ Below w.heap.size w w' := by
  have eg : ∀ args w, (callFunc 26 args).run Try.prog w = .ok (.enter 26 args) w := enters_of Try.func26 (by kernel_rfl) rfl
  have hmm := @run_makeMap Try.prog
  have hu39 := Try.underlying39
  have hh39 : Kd.Heap k39 := Kd.heap_iso _ (Kd.heap_pair (Kd.heap_int _) (Kd.heap_pair (Kd.heap_int _) (Kd.heap_pair (Kd.heap_int _) (Kd.heap_int _))))
  have HR0 := Aside0.mk hr0
  have HC0 := Aside0.mk hc0
  clear hr0 hc0
  have HB := Aside0.mk (Below.refl w.heap.size w)
  have H : ((impl_isConfig.f k l0).bind fun t1 => (if t1 = true then ((impl_within.f a1 1 60).bind fun t2 => (if t2 = true then ((impl_curvatures.f k l0).bind fun q => ((impl_IsQuad.f k q).bind fun t3 => (if t3 = true then ((impl_isRoot.f k q).bind fun t4 => (if t4 = true then ((slices_Min_int_int.f q).bind fun m => (if m ≥ 0 then (some (([] : List S39), false)) else (impl_CirclesUpTo.l0 k l0 a1 [] 0))) else (some (([] : List S39), false)))) else (some (([] : List S39), false))))) else (some (([] : List S39), false)))) else (some (([] : List S39), false)))) = some (r1, r2) := h
  clear h
  replace H := Option.bind_eq_some_iff.mp H
  obtain ⟨t1, A10, H⟩ := H
  have A1 := Aside0.mk A10
  clear A10
  cases t1 with
  | false =>
    rw [if_neg (by decide)] at H
    simp only [Option.some.injEq, Prod.mk.injEq] at H
    obtain ⟨rfl, rfl⟩ := H
    go_enter Try.func7, Try.ntmps7
    go_wp2_with (first
        | ((with_reducible refine gate_dst (N := 3) rfl ?_); refine box_event ?hg (N := 3) ?hd (cs := #[.int .i64 a1]) (t := 3) ?hr ?_; (case hd => rfl); (case hg => rfl); (case hr => first | (go_simp; done) | (go_simp; rfl)); intro gm hg w1 hbox hb; have n0_ := Aside0.mk (below_step HB.out hb); have BM := Aside0.mk hbox; clear HB hb hbox hg; have HB := n0_; clear n0_; have hcm1 : w1.cell? ⟨gm, 0, none⟩ = some (.int .i64 a1) := (blk_cell BM.out 0).trans rfl)
        | (go_at_call 20; refine (impl_isConfig.calls k _ _ l0 false _ (Kd.C_below HR0.out HB.out) HC0.out A1.out).mono ?_; rintro e w2 ⟨rfl, hb⟩; have n0_ := Aside0.mk (below_step HB.out hb); have n1_ := Aside0.mk (blk_below BM.out hb); clear HB BM hb; have HB := n0_; have BM := n1_; clear n0_ n1_; have hcm2 : w2.cell? ⟨gm, 0, none⟩ = some (.int .i64 a1) := (blk_cell BM.out 0).trans rfl))
    go_ret2
    exact ⟨_, rfl, Kd.R_nil _ _ _ _ _, HB.out⟩
  | true =>
    rw [if_pos rfl] at H
    replace H := Option.bind_eq_some_iff.mp H
    obtain ⟨t2, A20, H⟩ := H
    have A2 := Aside0.mk A20
    clear A20
    cases t2 with
    | false =>
      rw [if_neg (by decide)] at H
      simp only [Option.some.injEq, Prod.mk.injEq] at H
      obtain ⟨rfl, rfl⟩ := H
      go_enter Try.func7, Try.ntmps7
      go_wp2_with (first
        | ((with_reducible refine gate_dst (N := 3) rfl ?_); refine box_event ?hg (N := 3) ?hd (cs := #[.int .i64 a1]) (t := 3) ?hr ?_; (case hd => rfl); (case hg => rfl); (case hr => first | (go_simp; done) | (go_simp; rfl)); intro gm hg w1 hbox hb; have n0_ := Aside0.mk (below_step HB.out hb); have BM := Aside0.mk hbox; clear HB hb hbox hg; have HB := n0_; clear n0_; have hcm1 : w1.cell? ⟨gm, 0, none⟩ = some (.int .i64 a1) := (blk_cell BM.out 0).trans rfl)
        | (go_at_call 20; refine (impl_isConfig.calls k _ _ l0 true _ (Kd.C_below HR0.out HB.out) HC0.out A1.out).mono ?_; rintro e w2 ⟨rfl, hb⟩; have n0_ := Aside0.mk (below_step HB.out hb); have n1_ := Aside0.mk (blk_below BM.out hb); clear HB BM hb; have HB := n0_; have BM := n1_; clear n0_ n1_; have hcm2 : w2.cell? ⟨gm, 0, none⟩ = some (.int .i64 a1) := (blk_cell BM.out 0).trans rfl)
        | (go_at_call 21; refine (impl_within.calls a1 1 60 false _ A2.out).mono ?_; rintro e w3 ⟨rfl, hd⟩; have hb := Drawn0.below hd; have n0_ := Aside0.mk (below_step HB.out hb); have n1_ := Aside0.mk (blk_below BM.out hb); clear HB BM hb hd; have HB := n0_; have BM := n1_; clear n0_ n1_))
      go_ret2
      exact ⟨_, rfl, Kd.R_nil _ _ _ _ _, HB.out⟩
    | true =>
      rw [if_pos rfl] at H
      replace H := Option.bind_eq_some_iff.mp H
      obtain ⟨q, A30, H⟩ := H
      have A3 := Aside0.mk A30
      clear A30
      replace H := Option.bind_eq_some_iff.mp H
      obtain ⟨t3, A40, H⟩ := H
      have A4 := Aside0.mk A40
      clear A40
      cases t3 with
      | false =>
        rw [if_neg (by decide)] at H
        simp only [Option.some.injEq, Prod.mk.injEq] at H
        obtain ⟨rfl, rfl⟩ := H
        go_enter Try.func7, Try.ntmps7
        go_wp2_with (first
        | ((with_reducible refine gate_dst (N := 3) rfl ?_); refine box_event ?hg (N := 3) ?hd (cs := #[.int .i64 a1]) (t := 3) ?hr ?_; (case hd => rfl); (case hg => rfl); (case hr => first | (go_simp; done) | (go_simp; rfl)); intro gm hg w1 hbox hb; have n0_ := Aside0.mk (below_step HB.out hb); have BM := Aside0.mk hbox; clear HB hb hbox hg; have HB := n0_; clear n0_; have hcm1 : w1.cell? ⟨gm, 0, none⟩ = some (.int .i64 a1) := (blk_cell BM.out 0).trans rfl)
        | (go_at_call 20; refine (impl_isConfig.calls k _ _ l0 true _ (Kd.C_below HR0.out HB.out) HC0.out A1.out).mono ?_; rintro e w2 ⟨rfl, hb⟩; have n0_ := Aside0.mk (below_step HB.out hb); have n1_ := Aside0.mk (blk_below BM.out hb); clear HB BM hb; have HB := n0_; have BM := n1_; clear n0_ n1_; have hcm2 : w2.cell? ⟨gm, 0, none⟩ = some (.int .i64 a1) := (blk_cell BM.out 0).trans rfl)
        | (go_at_call 21; refine (impl_within.calls a1 1 60 true _ A2.out).mono ?_; rintro e w3 ⟨rfl, hd⟩; have hb := Drawn0.below hd; have n0_ := Aside0.mk (below_step HB.out hb); have n1_ := Aside0.mk (blk_below BM.out hb); clear HB BM hb hd; have HB := n0_; have BM := n1_; clear n0_ n1_)
        | (go_at_call 22; refine (impl_curvatures.calls k _ _ l0 q _ (Kd.C_below HR0.out HB.out) HC0.out A3.out).mono ?_; rintro e w4 ⟨v4, rfl, ho, hb⟩; have n0_ := Aside0.mk (below_step HB.out hb); have n1_ := Aside0.mk (blk_below BM.out hb); have HQ := Aside0.mk ho; clear HB BM hb ho; have HB := n0_; have BM := n1_; clear n0_ n1_; obtain ⟨Aq, cq, eq_⟩ := Kd.R_slice HQ.out; subst eq_)
        | (go_at_call 23; refine (impl_IsQuad.calls k _ _ q false _ (Kd.R_reads' HQ.out).2.2 (Kd.R_reads' HQ.out).2.1 A4.out).mono ?_; rintro e w5 ⟨rfl, hb⟩; have n0_ := Aside0.mk (below_step HB.out hb); have n1_ := Aside0.mk (blk_below BM.out hb); have n2_ := Aside0.mk (Kd.R_below HQ.out hb); clear HB BM HQ hb; have HB := n0_; have BM := n1_; have HQ := n2_; clear n0_ n1_ n2_))
        go_ret2
        exact ⟨_, rfl, Kd.R_nil _ _ _ _ _, HB.out⟩
      | true =>
        rw [if_pos rfl] at H
        replace H := Option.bind_eq_some_iff.mp H
        obtain ⟨t4, A50, H⟩ := H
        have A5 := Aside0.mk A50
        clear A50
        cases t4 with
        | false =>
          rw [if_neg (by decide)] at H
          simp only [Option.some.injEq, Prod.mk.injEq] at H
          obtain ⟨rfl, rfl⟩ := H
          go_enter Try.func7, Try.ntmps7
          go_wp2_with (first
        | ((with_reducible refine gate_dst (N := 3) rfl ?_); refine box_event ?hg (N := 3) ?hd (cs := #[.int .i64 a1]) (t := 3) ?hr ?_; (case hd => rfl); (case hg => rfl); (case hr => first | (go_simp; done) | (go_simp; rfl)); intro gm hg w1 hbox hb; have n0_ := Aside0.mk (below_step HB.out hb); have BM := Aside0.mk hbox; clear HB hb hbox hg; have HB := n0_; clear n0_; have hcm1 : w1.cell? ⟨gm, 0, none⟩ = some (.int .i64 a1) := (blk_cell BM.out 0).trans rfl)
        | (go_at_call 20; refine (impl_isConfig.calls k _ _ l0 true _ (Kd.C_below HR0.out HB.out) HC0.out A1.out).mono ?_; rintro e w2 ⟨rfl, hb⟩; have n0_ := Aside0.mk (below_step HB.out hb); have n1_ := Aside0.mk (blk_below BM.out hb); clear HB BM hb; have HB := n0_; have BM := n1_; clear n0_ n1_; have hcm2 : w2.cell? ⟨gm, 0, none⟩ = some (.int .i64 a1) := (blk_cell BM.out 0).trans rfl)
        | (go_at_call 21; refine (impl_within.calls a1 1 60 true _ A2.out).mono ?_; rintro e w3 ⟨rfl, hd⟩; have hb := Drawn0.below hd; have n0_ := Aside0.mk (below_step HB.out hb); have n1_ := Aside0.mk (blk_below BM.out hb); clear HB BM hb hd; have HB := n0_; have BM := n1_; clear n0_ n1_)
        | (go_at_call 22; refine (impl_curvatures.calls k _ _ l0 q _ (Kd.C_below HR0.out HB.out) HC0.out A3.out).mono ?_; rintro e w4 ⟨v4, rfl, ho, hb⟩; have n0_ := Aside0.mk (below_step HB.out hb); have n1_ := Aside0.mk (blk_below BM.out hb); have HQ := Aside0.mk ho; clear HB BM hb ho; have HB := n0_; have BM := n1_; clear n0_ n1_; obtain ⟨Aq, cq, eq_⟩ := Kd.R_slice HQ.out; subst eq_)
        | (go_at_call 23; refine (impl_IsQuad.calls k _ _ q true _ (Kd.R_reads' HQ.out).2.2 (Kd.R_reads' HQ.out).2.1 A4.out).mono ?_; rintro e w5 ⟨rfl, hb⟩; have n0_ := Aside0.mk (below_step HB.out hb); have n1_ := Aside0.mk (blk_below BM.out hb); have n2_ := Aside0.mk (Kd.R_below HQ.out hb); clear HB BM HQ hb; have HB := n0_; have BM := n1_; have HQ := n2_; clear n0_ n1_ n2_)
        | (go_at_call 24; refine (impl_isRoot.calls k _ _ q false _ (Kd.R_reads' HQ.out).2.2 (Kd.R_reads' HQ.out).2.1 A5.out).mono ?_; rintro e w6 ⟨rfl, hb⟩; have n0_ := Aside0.mk (below_step HB.out hb); have n1_ := Aside0.mk (blk_below BM.out hb); have n2_ := Aside0.mk (Kd.R_below HQ.out hb); clear HB BM HQ hb; have HB := n0_; have BM := n1_; have HQ := n2_; clear n0_ n1_ n2_))
          go_ret2
          exact ⟨_, rfl, Kd.R_nil _ _ _ _ _, HB.out⟩
        | true =>
          rw [if_pos rfl] at H
          replace H := Option.bind_eq_some_iff.mp H
          obtain ⟨m, A60, H⟩ := H
          have A6 := Aside0.mk A60
          clear A60
          by_cases cm : m ≥ 0
          · rw [if_pos cm] at H
            have cmb : decide (m ≥ 0) = true := decide_eq_true cm
            have cmc : decide (0 ≤ m) = true := decide_eq_true cm
            clear cm
            simp only [Option.some.injEq, Prod.mk.injEq] at H
            obtain ⟨rfl, rfl⟩ := H
            go_enter Try.func7, Try.ntmps7
            go_wp2_with (first
        | ((with_reducible refine gate_dst (N := 3) rfl ?_); refine box_event ?hg (N := 3) ?hd (cs := #[.int .i64 a1]) (t := 3) ?hr ?_; (case hd => rfl); (case hg => rfl); (case hr => first | (go_simp; done) | (go_simp; rfl)); intro gm hg w1 hbox hb; have n0_ := Aside0.mk (below_step HB.out hb); have BM := Aside0.mk hbox; clear HB hb hbox hg; have HB := n0_; clear n0_; have hcm1 : w1.cell? ⟨gm, 0, none⟩ = some (.int .i64 a1) := (blk_cell BM.out 0).trans rfl)
        | (go_at_call 20; refine (impl_isConfig.calls k _ _ l0 true _ (Kd.C_below HR0.out HB.out) HC0.out A1.out).mono ?_; rintro e w2 ⟨rfl, hb⟩; have n0_ := Aside0.mk (below_step HB.out hb); have n1_ := Aside0.mk (blk_below BM.out hb); clear HB BM hb; have HB := n0_; have BM := n1_; clear n0_ n1_; have hcm2 : w2.cell? ⟨gm, 0, none⟩ = some (.int .i64 a1) := (blk_cell BM.out 0).trans rfl)
        | (go_at_call 21; refine (impl_within.calls a1 1 60 true _ A2.out).mono ?_; rintro e w3 ⟨rfl, hd⟩; have hb := Drawn0.below hd; have n0_ := Aside0.mk (below_step HB.out hb); have n1_ := Aside0.mk (blk_below BM.out hb); clear HB BM hb hd; have HB := n0_; have BM := n1_; clear n0_ n1_)
        | (go_at_call 22; refine (impl_curvatures.calls k _ _ l0 q _ (Kd.C_below HR0.out HB.out) HC0.out A3.out).mono ?_; rintro e w4 ⟨v4, rfl, ho, hb⟩; have n0_ := Aside0.mk (below_step HB.out hb); have n1_ := Aside0.mk (blk_below BM.out hb); have HQ := Aside0.mk ho; clear HB BM hb ho; have HB := n0_; have BM := n1_; clear n0_ n1_; obtain ⟨Aq, cq, eq_⟩ := Kd.R_slice HQ.out; subst eq_)
        | (go_at_call 23; refine (impl_IsQuad.calls k _ _ q true _ (Kd.R_reads' HQ.out).2.2 (Kd.R_reads' HQ.out).2.1 A4.out).mono ?_; rintro e w5 ⟨rfl, hb⟩; have n0_ := Aside0.mk (below_step HB.out hb); have n1_ := Aside0.mk (blk_below BM.out hb); have n2_ := Aside0.mk (Kd.R_below HQ.out hb); clear HB BM HQ hb; have HB := n0_; have BM := n1_; have HQ := n2_; clear n0_ n1_ n2_)
        | (go_at_call 24; refine (impl_isRoot.calls k _ _ q true _ (Kd.R_reads' HQ.out).2.2 (Kd.R_reads' HQ.out).2.1 A5.out).mono ?_; rintro e w6 ⟨rfl, hb⟩; have n0_ := Aside0.mk (below_step HB.out hb); have n1_ := Aside0.mk (blk_below BM.out hb); have n2_ := Aside0.mk (Kd.R_below HQ.out hb); clear HB BM HQ hb; have HB := n0_; have BM := n1_; have HQ := n2_; clear n0_ n1_ n2_)
        | (go_at_call 25; refine (slices_Min_int_int.calls _ _ q m _ (Kd.R_reads' HQ.out).2.2 (Kd.R_reads' HQ.out).2.1 A6.out).mono ?_; rintro e w7 ⟨rfl, hd⟩; have hb := Drawn0.below hd; have n0_ := Aside0.mk (below_step HB.out hb); have n1_ := Aside0.mk (blk_below BM.out hb); clear HB BM HQ hb hd; have HB := n0_; have BM := n1_; clear n0_ n1_))
            go_ret2
            exact ⟨_, rfl, Kd.R_nil _ _ _ _ _, HB.out⟩
          · rw [if_neg cm] at H
            have cmb : decide (m ≥ 0) = false := decide_eq_false cm
            have cmc : decide (0 ≤ m) = false := decide_eq_false cm
            clear cm
            have H' := Aside0.mk H
            clear H
            go_enter Try.func7, Try.ntmps7
            go_wp2_with (first
        | ((with_reducible refine gate_dst (N := 3) rfl ?_); refine box_event ?hg (N := 3) ?hd (cs := #[.int .i64 a1]) (t := 3) ?hr ?_; (case hd => rfl); (case hg => rfl); (case hr => first | (go_simp; done) | (go_simp; rfl)); intro gm hg w1 hbox hb; have n0_ := Aside0.mk (below_step HB.out hb); have BM := Aside0.mk hbox; clear HB hb hbox hg; have HB := n0_; clear n0_; have hcm1 : w1.cell? ⟨gm, 0, none⟩ = some (.int .i64 a1) := (blk_cell BM.out 0).trans rfl)
        | (go_at_call 20; refine (impl_isConfig.calls k _ _ l0 true _ (Kd.C_below HR0.out HB.out) HC0.out A1.out).mono ?_; rintro e w2 ⟨rfl, hb⟩; have n0_ := Aside0.mk (below_step HB.out hb); have n1_ := Aside0.mk (blk_below BM.out hb); clear HB BM hb; have HB := n0_; have BM := n1_; clear n0_ n1_; have hcm2 : w2.cell? ⟨gm, 0, none⟩ = some (.int .i64 a1) := (blk_cell BM.out 0).trans rfl)
        | (go_at_call 21; refine (impl_within.calls a1 1 60 true _ A2.out).mono ?_; rintro e w3 ⟨rfl, hd⟩; have hb := Drawn0.below hd; have n0_ := Aside0.mk (below_step HB.out hb); have n1_ := Aside0.mk (blk_below BM.out hb); clear HB BM hb hd; have HB := n0_; have BM := n1_; clear n0_ n1_)
        | (go_at_call 22; refine (impl_curvatures.calls k _ _ l0 q _ (Kd.C_below HR0.out HB.out) HC0.out A3.out).mono ?_; rintro e w4 ⟨v4, rfl, ho, hb⟩; have n0_ := Aside0.mk (below_step HB.out hb); have n1_ := Aside0.mk (blk_below BM.out hb); have HQ := Aside0.mk ho; clear HB BM hb ho; have HB := n0_; have BM := n1_; clear n0_ n1_; obtain ⟨Aq, cq, eq_⟩ := Kd.R_slice HQ.out; subst eq_)
        | (go_at_call 23; refine (impl_IsQuad.calls k _ _ q true _ (Kd.R_reads' HQ.out).2.2 (Kd.R_reads' HQ.out).2.1 A4.out).mono ?_; rintro e w5 ⟨rfl, hb⟩; have n0_ := Aside0.mk (below_step HB.out hb); have n1_ := Aside0.mk (blk_below BM.out hb); have n2_ := Aside0.mk (Kd.R_below HQ.out hb); clear HB BM HQ hb; have HB := n0_; have BM := n1_; have HQ := n2_; clear n0_ n1_ n2_)
        | (go_at_call 24; refine (impl_isRoot.calls k _ _ q true _ (Kd.R_reads' HQ.out).2.2 (Kd.R_reads' HQ.out).2.1 A5.out).mono ?_; rintro e w6 ⟨rfl, hb⟩; have n0_ := Aside0.mk (below_step HB.out hb); have n1_ := Aside0.mk (blk_below BM.out hb); have n2_ := Aside0.mk (Kd.R_below HQ.out hb); clear HB BM HQ hb; have HB := n0_; have BM := n1_; have HQ := n2_; clear n0_ n1_ n2_)
        | (go_at_call 25; refine (slices_Min_int_int.calls _ _ q m _ (Kd.R_reads' HQ.out).2.2 (Kd.R_reads' HQ.out).2.1 A6.out).mono ?_; rintro e w7 ⟨rfl, hd⟩; have hb := Drawn0.below hd; have n0_ := Aside0.mk (below_step HB.out hb); have n1_ := Aside0.mk (blk_below BM.out hb); clear HB BM HQ hb hd; have HB := n0_; have BM := n1_; clear n0_ n1_)
        | ((with_reducible refine gate_dst (N := 40) rfl ?_); refine Kd.R_lit k39 _ 39 ?hg (N := 40) ?hd (xs := ([] : List S39)) (inner := []) (ok := fun _ => True) (okp := fun _ => True) ?hr ?hp (fun _ hk => hk) trivial (Below.refl _ _) (Nat.le_refl _) (by simp) ?_; (case hd => rfl); (case hg => rfl); (case hr => first | (go_simp; done) | (go_simp; rfl)); (case hp => exact (Reps.none _ _)); intro v8 w8 ho hb hg_ hnew_; clear hg_ hnew_; have HO := Aside0.mk (Kd.R_lower (Kd.R_mono (Kd.R_bound ho) (ok' := fun k_ => w.heap.size ≤ k_) (fun k_ hk => Nat.le_trans (below_size HB.out) hk.2.1)) (below_size HB.out)); have n0_ := Aside0.mk (below_step HB.out hb); have n1_ := Aside0.mk (blk_below BM.out hb); clear HB BM ho hb; have HB := n0_; have BM := n1_; clear n0_ n1_)
        | ((with_reducible refine gate_dst (N := 7) rfl ?_); refine box_event ?hg (N := 7) ?hd (cs := #[.slice none 0 0]) (t := 24) ?hr ?_; (case hd => rfl); (case hg => rfl); (case hr => first | (go_simp; done) | (go_simp; rfl)); intro go hg w9 hbox hb; have HS := Aside0.mk (set_step (show SetAt (w8.alloc (.map #[] 0)) w8.heap.size [] from ⟨#[], 0, Array.getElem?_push_size, rfl⟩) (hb.block w8.heap.size (show w8.heap.size < (w8.heap.push _).size by rw [Array.size_push]; exact Nat.lt_succ_self _))); have GB := Aside0.mk (below_size HB.out : w.heap.size ≤ w8.heap.size); have GO := Aside0.mk (show w.heap.size ≤ go by rw [hg]; exact below_size (below_alloc HB.out _)); have BO := Aside0.mk hbox; have n0_ := Aside0.mk (below_step (below_alloc HB.out _) hb); have n1_ := Aside0.mk (blk_below (blk_alloc BM.out _) hb); have n2_ := Aside0.mk (Kd.R_below (Kd.R_alloc HO.out _) hb); clear HB BM HO hb hbox hg; have HB := n0_; have BM := n1_; have HO := n2_; clear n0_ n1_ n2_)
        | ((with_reducible refine gate_dst (N := 8) rfl ?_); refine box_event ?hg (N := 8) ?hd (cs := #[.map none]) (t := 47) ?hr ?_; (case hd => rfl); (case hg => rfl); (case hr => first | (go_simp; done) | (go_simp; rfl)); intro gt hg w10 hbox hb; have GT := Aside0.mk (show w.heap.size ≤ gt by rw [hg]; exact below_size HB.out); have BT := Aside0.mk hbox; have n0_ := Aside0.mk (below_step HB.out hb); have n1_ := Aside0.mk (blk_below BM.out hb); have n2_ := Aside0.mk (Kd.R_below HO.out hb); have n3_ := Aside0.mk (blk_below BO.out hb); have n4_ := Aside0.mk (set_step HS.out (hb.block _ (set_lt HS.out))); have hnb : go ≠ gt := by { rw [hg]; exact Nat.ne_of_lt (blk_lt BO.out) }; have hnc := hnb.symm; clear HB BM HO BO HS hb hbox hg; have HB := n0_; have BM := n1_; have HO := n2_; have BO := n3_; have HS := n4_; clear n0_ n1_ n2_ n3_ n4_; have hcg : w10.cell? ⟨go, 0, none⟩ = some (.slice none 0 0) := (blk_cell BO.out 0).trans rfl; have hct : w10.cell? ⟨gt, 0, none⟩ = some (.map none) := (blk_cell BT.out 0).trans rfl; have hfg := blk_frozen BO.out 0; have hft := blk_frozen BT.out 0; obtain ⟨A8, c8, e8⟩ := Kd.R_slice HO.out; subst e8))
            have HT := Aside0.mk (St.start GO.out GB.out GT.out BM.out BT.out BO.out HS.out HO.out HB.out)
            clear GT BM BT BO HS HO HB hcg hct hfg hft hnb hnc
            generalize w8.heap.size = bm at *
            go_loopg [45] k (fun kq v45 wr => ∃ (x7 : List S39) (i : Int) (u : Value), v45 = .int .i64 i ∧ 0 ≤ i ∧ Aside0 (impl_CirclesUpTo.l0 kq l0 a1 x7 i = some (r1, r2)) ∧ Aside0 (kq ≤ k) ∧ Aside0 (St w gm gt go bm a1 u x7 wr))
            case atStart => exact ⟨[], 0, _, (by first | rfl | (simp; done) | (simp [*]; done)), Int.le_refl _, H', ⟨Nat.le_refl _⟩, HT⟩
            case round =>
              clear H' HT
              obtain ⟨x7, i, u, rfl, hi0, HA, HK1, HT⟩ := hrel
              cases gk with
              | zero => exact absurd HA.out (by simp [impl_CirclesUpTo.l0])
              | succ k1 =>
                have H := HA.out
                clear HA
                rw [impl_CirclesUpTo.l0] at H
                by_cases c5 : i < (l0.length : Int)
                · rw [if_pos c5] at H
                  have c5b0 : decide (i < (l0.length : Int)) = true := decide_eq_true c5
                  by_cases c6 : x7.length < 4398046511104
                  · rw [if_pos c6] at H
                    have LM := Aside0.mk c6
                    clear c6
                    have H' := Aside0.mk H
                    clear H
                    obtain ⟨ad5, e5, hx0, hx1, hx2, hx3⟩ := at_T39 (Kd.C_below HR0.out HT.out.2.2.2.2.2.2.2) i hi0 c5
                    cases e5
                    go_wp2_with (first
                      | ((with_reducible refine gate_dst (N := 11) rfl ?_); refine box_event ?hg (N := 11) ?hd (cs := #[.int .i64 0, .int .i64 0, .int .i64 0, .int .i64 0]) (t := 39) ?hr ?_; (case hd => rfl); (case hg => rfl); (case hr => first | (go_simp; done) | (go_simp; rfl)); intro gx hg w12 hbox hb; have NF := Aside0.mk (HT.out.newer (gb := gx) (by rw [hg]; exact Nat.le_refl _)); have n0_ := Aside0.mk (HT.out.below hb); have BX := Aside0.mk hbox; clear HT hb hbox hg; have HT := n0_; clear n0_; have hcz0 : w12.cell? ⟨gx, 0, none⟩ = some (.int .i64 0) := (blk_cell BX.out 0).trans rfl; have hfz0 := blk_frozen BX.out 0; have hcz1 : w12.cell? ⟨gx, 1, none⟩ = some (.int .i64 0) := (blk_cell BX.out 1).trans rfl; have hfz1 := blk_frozen BX.out 1; have hcz2 : w12.cell? ⟨gx, 2, none⟩ = some (.int .i64 0) := (blk_cell BX.out 2).trans rfl; have hfz2 := blk_frozen BX.out 2; have hcz3 : w12.cell? ⟨gx, 3, none⟩ = some (.int .i64 0) := (blk_cell BX.out 3).trans rfl; have hfz3 := blk_frozen BX.out 3)
                      | (go_at_fn 26; refine (circVisit.calls w gm gt go bm a1 u x7 (rd_T39 l0 i) _ ?st LM.out).mono ?_; (case st => repeat (first | exact HT.out | refine St.set ?_ NF.out.1 NF.out.2 _ _)); rintro e w13 ⟨rfl, u2, st2, hk2, hat2⟩; have n0_ := Aside0.mk st2; clear HT NF BX hk2 hat2 st2; have HT := n0_; clear n0_))
                    go_roundg k1
                    case measure => have := HK1.out; omega
                    case rel => exact ⟨(vis a1 x7 (rd_T39 l0 i)).1, wrap64 (i + 1), u2, (by first | rfl | (simp; done) | (simp [*]; done)), by have := HR0.out.2.1; unfold wrap64; omega, H', ⟨by have := HK1.out; omega⟩, HT⟩
                  · rw [if_neg c6] at H
                    cases H
                · rw [if_neg c5] at H
                  have c5b0 : decide (i < (l0.length : Int)) = false := decide_eq_false c5
                  clear c5
                  have H' := Aside0.mk H
                  clear H
                  have HW := Aside0.mk HT.out.2.2.2.2.2.2.2
                  go_wp2_with ((with_reducible refine gate_dst (N := 55) rfl ?_); refine Kd.N_lit k41 _ 49 ?hg (N' := 55) ?hd (xs := [(⟨l0, (-1)⟩ : S41)]) (inner := [.slice A0 l0.length c0, .int .i64 (-1)]) (ok := OKQ go bm u) (okp := OKQ go bm u) ?hr ?hp (fun _ hk => hk) (okq_new HT.out (Nat.le_refl _)) (Below.refl _ _) (Nat.le_refl _) (by simp) ?_; (case hd => rfl); (case hg => rfl); (case hr => first | (go_simp; done) | (go_simp; rfl)); (case hp => exact (Reps.c2 (show Kd.FK k41 _ _ (⟨l0, (-1)⟩ : S41) [.slice A0 l0.length c0, .int .i64 (-1)] from (k41_mkF _ _ (⟨l0, (-1)⟩ : S41) HC0.out (Kd.F_mono (Kd.F_below (Kd.C_F hh39 HR0.out) HW.out) (fun k_ hk => okq_old HT.out hk)))) (Reps.none _ _))); intro v55 w55 ho hb hg_ hnew_; clear hg_ hnew_; have HQ := Aside0.mk (Kd.N_lower ho (below_size HW.out)); have n0_ := Aside0.mk (HT.out.below hb); clear HT HW ho hb; have HT := n0_; clear n0_)
                  go_loopg [12, 13] k1 (fun kq v12 v13 wr => ∃ (x7 : List S39) (x10 : List S41) (x11 : Int) (u : Value), v13 = .int .i64 x11 ∧ Aside0 (impl_CirclesUpTo.l1 kq a1 x7 x10 x11 = some (r1, r2)) ∧ Aside0 (kq ≤ k1) ∧ Aside0 (St w gm gt go bm a1 u x7 wr) ∧ Aside0 (Kd.N k41 49 wr w.heap.size (OKQ go bm u) v12 x10))
                  case atStart => exact ⟨x7, _, 0, u, (by first | rfl | (simp; done) | (simp [*]; done)), H', ⟨Nat.le_refl _⟩, HT, HQ⟩
                  case round =>
                    clear H' HT HQ u x7
                    obtain ⟨x7, x10, x11, u, rfl, HA, HK2, HT, HQ⟩ := hrel
                    cases gk with
                    | zero => exact absurd HA.out (by simp [impl_CirclesUpTo.l1])
                    | succ k2 =>
                      have H := HA.out
                      clear HA
                      rw [impl_CirclesUpTo.l1] at H
                      obtain ⟨Aq2, cq2, eq2⟩ := Kd.N_slice HQ.out
                      subst eq2
                      by_cases c7 : x11 < (x10.length : Int)
                      · rw [if_pos c7] at H
                        have c7b0 : decide (x11 < (x10.length : Int)) = true := decide_eq_true c7
                        clear c7
                        have H' := Aside0.mk H
                        clear H
                        go_wp2
                        go_loopg [12, 62] k2 (fun kq v12 v62 wr => ∃ (x7 : List S39) (x10 : List S41) (x12 : Int) (u : Value), v62 = .int .i64 x12 ∧ Aside0 (impl_CirclesUpTo.l2 kq a1 x7 x10 x11 x12 = some (r1, r2)) ∧ Aside0 (kq ≤ k2) ∧ Aside0 (St w gm gt go bm a1 u x7 wr) ∧ Aside0 (Kd.N k41 49 wr w.heap.size (OKQ go bm u) v12 x10))
                        case atStart => exact ⟨x7, x10, 0, u, (by first | rfl | (simp; done) | (simp [*]; done)), H', ⟨Nat.le_refl _⟩, HT, HQ⟩
                        case round =>
                          clear H' HT HQ
                          clear u x7 c7b0
                          obtain ⟨x7, y10, x12, u, rfl, HA, HK3, HT, HQ⟩ := hrel
                          cases gk with
                          | zero => exact absurd HA.out (by simp [impl_CirclesUpTo.l2])
                          | succ k3 =>
                            have H := HA.out
                            clear HA
                            rw [impl_CirclesUpTo.l2] at H
                            obtain ⟨Aq3, cq3, eq3⟩ := Kd.N_slice HQ.out
                            subst eq3
                            by_cases c8 : x12 < 4
                            · rw [if_pos c8] at H
                              have c8b0 : decide (x12 < 4) = true := decide_eq_true c8
                              clear c8
                              by_cases c9 : 0 ≤ x11
                              · rw [if_pos c9] at H
                                by_cases c10 : x11 < (y10.length : Int)
                                · rw [if_pos c10] at H
                                  obtain ⟨adq, Al, cl, e10, hq0, hq1, hl0, hi0_⟩ := at_T41 (Kd.N_reads' HQ.out).2.2 x11 c9 c10
                                  cases e10
                                  have HCl := Aside0.mk hl0
                                  have HCi := Aside0.mk hi0_
                                  clear hl0 hi0_
                                  by_cases c11 : x12 = (rd_T41 y10 x11).f1
                                  · rw [if_pos c11] at H
                                    have c11b0 : (x12 == (rd_T41 y10 x11).f1) = true := beq_iff_eq.mpr c11
                                    clear c11
                                    have H' := Aside0.mk H
                                    clear H
                                    go_wp2
                                    go_roundg k3
                                    case measure => have := HK1.out; have := HK2.out; have := HK3.out; omega
                                    case rel => exact ⟨x7, y10, wrap64 (x12 + 1), u, (by first | rfl | (simp; done) | (simp [*]; done)), H', ⟨by have := HK1.out; have := HK2.out; have := HK3.out; omega⟩, HT, HQ⟩
                                  · rw [if_neg c11] at H
                                    have c11b0 : (x12 == (rd_T41 y10 x11).f1) = false := beq_eq_false_iff_ne.mpr c11
                                    clear c11
                                    replace H := Option.bind_eq_some_iff.mp H
                                    obtain ⟨⟨nx, okb⟩, A120, H⟩ := H
                                    dsimp only at H
                                    have A12 := Aside0.mk A120
                                    clear A120
                                    by_cases c13 : 0 ≤ x12
                                    · rw [if_pos c13] at H
                                      by_cases c14 : x12 < (nx.length : Int)
                                      · rw [if_pos c14] at H
                                        by_cases c15 : x7.length < 4398046511104
                                        · rw [if_pos c15] at H
                                          have LM := Aside0.mk c15
                                          clear c15
                                          by_cases c16 : (vis a1 x7 (rd_T39 nx x12)).2 = true
                                          · rw [if_pos c16] at H
                                            cases okb with
                                            | true =>
                                              rw [if_pos rfl] at H
                                              by_cases c17 : ((vis a1 x7 (rd_T39 nx x12)).1.length : Int) > 300
                                              · rw [if_pos c17] at H
                                                have c17b0 : decide (300 < ((vis a1 x7 (rd_T39 nx x12)).1.length : Int)) = true := decide_eq_true c17
                                                clear c17
                                                simp only [Option.some.injEq, Prod.mk.injEq] at H
                                                obtain ⟨rfl, rfl⟩ := H
                                                go_wp2_with (first
                                                  | (go_at_call 27; refine (impl_swapCircle.calls k3 _ _ ((rd_T41 y10 x11).f0) x12 nx true _ HCi.out HCl.out A12.out).mono ?_; rintro e w64 ⟨v64, rfl, ho, hb⟩; have HN := Aside0.mk (Kd.R_mono (Kd.R_bound ho) (ok' := fun k_ => wr.heap.size ≤ k_ ∧ k_ < w64.heap.size) (fun k_ hk => ⟨hk.2.1, hk.2.2.1⟩)); have HTV := Aside0.mk HT.out; have n0_ := Aside0.mk (HT.out.below hb); have n1_ := Aside0.mk (Kd.N_below HQ.out hb); clear HT HQ ho hb; have HT := n0_; have HQ := n1_; clear n0_ n1_; obtain ⟨An, cn, en⟩ := Kd.R_slice HN.out; subst en; obtain ⟨ad2, e2, hy0, hy1, hy2, hy3⟩ := at_T39 (Kd.R_reads' HN.out).2.2 x12 c13 c14; cases e2)
                                                  | (go_at_fn 26; refine (circVisit.calls w gm gt go bm a1 u x7 (rd_T39 nx x12) _ HT.out LM.out).mono ?_; rintro e w15 ⟨he, u2, st2, hk2, hat2⟩; rw [c16] at he; subst he; have n0_ := Aside0.mk st2; have n1_ := Aside0.mk (okq_queue HQ.out hk2 hat2); have n2_ := Aside0.mk (okq_next HTV.out HN.out hk2 hat2); clear HT HQ HN HTV hk2 hat2 st2; have HT := n0_; have HQ := n1_; have HN := n2_; clear n0_ n1_ n2_; have hcg : w15.cell? ⟨go, 0, none⟩ = some u2 := (blk_cell HT.out.2.2.2.2.1 0).trans rfl; obtain ⟨Au, cu, eu⟩ := Kd.R_slice HT.out.2.2.2.2.2.2.1; subst eu))
                                                go_ret2
                                                exact ⟨_, rfl, Kd.R_nil _ _ _ _ _, HT.out.2.2.2.2.2.2.2⟩
                                              · rw [if_neg c17] at H
                                                have c17b0 : decide (300 < ((vis a1 x7 (rd_T39 nx x12)).1.length : Int)) = false := decide_eq_false c17
                                                clear c17
                                                by_cases c18 : y10.length < 4398046511104
                                                · rw [if_pos c18] at H
                                                  have LM2 := Aside0.mk c18
                                                  clear c18
                                                  have H' := Aside0.mk H
                                                  clear H
                                                  go_wp2_with (first
                                                    | (go_at_call 27; refine (impl_swapCircle.calls k3 _ _ ((rd_T41 y10 x11).f0) x12 nx true _ HCi.out HCl.out A12.out).mono ?_; rintro e w64 ⟨v64, rfl, ho, hb⟩; have HN := Aside0.mk (Kd.R_mono (Kd.R_bound ho) (ok' := fun k_ => wr.heap.size ≤ k_ ∧ k_ < w64.heap.size) (fun k_ hk => ⟨hk.2.1, hk.2.2.1⟩)); have HTV := Aside0.mk HT.out; have n0_ := Aside0.mk (HT.out.below hb); have n1_ := Aside0.mk (Kd.N_below HQ.out hb); clear HT HQ ho hb; have HT := n0_; have HQ := n1_; clear n0_ n1_; obtain ⟨An, cn, en⟩ := Kd.R_slice HN.out; subst en; obtain ⟨ad2, e2, hy0, hy1, hy2, hy3⟩ := at_T39 (Kd.R_reads' HN.out).2.2 x12 c13 c14; cases e2)
                                                    | (go_at_fn 26; refine (circVisit.calls w gm gt go bm a1 u x7 (rd_T39 nx x12) _ HT.out LM.out).mono ?_; rintro e w15 ⟨he, u2, st2, hk2, hat2⟩; rw [c16] at he; subst he; have n0_ := Aside0.mk st2; have n1_ := Aside0.mk (okq_queue HQ.out hk2 hat2); have n2_ := Aside0.mk (okq_next HTV.out HN.out hk2 hat2); clear HT HQ HN HTV hk2 hat2 st2; have HT := n0_; have HQ := n1_; have HN := n2_; clear n0_ n1_ n2_; have hcg : w15.cell? ⟨go, 0, none⟩ = some u2 := (blk_cell HT.out.2.2.2.2.1 0).trans rfl; obtain ⟨Au, cu, eu⟩ := Kd.R_slice HT.out.2.2.2.2.2.2.1; subst eu)
                                                    | ((with_reducible refine gate_builtin (b := .append) (xs := #[.tmp 96, .tmp 100]) rfl ?_); at_builtin; refine Kd.N_append k41 (w0 := w) w.heap.size rfl (.tmp 96) (.tmp 100) 50 49 (.agg #[(.slice none 0 0), (.int .i64 0)]) 32 rfl Try.underlying50 info49 rfl (by decide) (by omega) (.slice (some adq) y10.length cq3) y10 (⟨nx, x12⟩ : S41) [.slice (some ad2) nx.length cn, .int .i64 x12] (OKQ go bm (.slice Au (vis a1 x7 (rd_T39 nx x12)).1.length cu)) (fun k_ => OKQ go bm (.slice Au (vis a1 x7 (rd_T39 nx x12)).1.length cu) k_ ∧ some k_ ≠ (.slice (some adq) y10.length cq3 : Value).ownBlock) rfl rfl ?aP (fun _ hk => hk) ?aF ?aO ?aB ?aS ?aL ?_; (case aP => exact (k41_mkF _ _ (⟨nx, x12⟩ : S41) (Kd.R_reads' HN.out).2.1 (Kd.R_F (Kd.R_apart' HN.out (Kd.N_typed HQ.out) (by decide))))); (case aF => exact (fun k_ hk => okq_new (HT.out.below (by repeat (first | exact Below.refl _ _ | apply below_alloc))) hk)); (case aO => exact (by (with_reducible repeat (first | apply Kd.N_alloc | apply Kd.N_drewN | apply Kd.N_drew)); exact HQ.out)); (case aB => exact (by repeat (first | (with_reducible first | exact HT.out.2.2.2.2.2.2.2 | apply below_alloc | apply pw_below_drewN | apply below_drew1) | exact HT.out.2.2.2.2.2.2.2))); (case aS => exact (below_size (by repeat (first | (with_reducible first | exact HT.out.2.2.2.2.2.2.2 | apply below_alloc | apply pw_below_drewN | apply below_drew1) | exact HT.out.2.2.2.2.2.2.2)))); (case aL => have := LM2.out; omega); intro v69 w69 ho hb hg hat; have n0_ := Aside0.mk (St.queue (HT.out.below (by repeat (first | exact Below.refl _ _ | apply below_alloc))) (by (with_reducible repeat (first | apply Kd.N_alloc | apply Kd.N_drewN | apply Kd.N_drew)); exact HQ.out) hg hb); have n1_ := Aside0.mk ho; clear HT HQ HN ho hb hg hat hcg; have HT := n0_; have HQ := n1_; clear n0_ n1_))
                                                  go_roundg k3
                                                  case measure => have := HK1.out; have := HK2.out; have := HK3.out; omega
                                                  case rel => exact ⟨(vis a1 x7 (rd_T39 nx x12)).1, y10 ++ [(⟨nx, x12⟩ : S41)], wrap64 (x12 + 1), _, (by first | rfl | (simp; done) | (simp [*]; done)), H', ⟨by have := HK1.out; have := HK2.out; have := HK3.out; omega⟩, HT, HQ⟩
                                                · rw [if_neg c18] at H
                                                  cases H
                                            | false =>
                                              rw [if_neg (by decide)] at H
                                              simp only [Option.some.injEq, Prod.mk.injEq] at H
                                              obtain ⟨rfl, rfl⟩ := H
                                              go_wp2_with (first
                                                | (go_at_call 27; refine (impl_swapCircle.calls k3 _ _ ((rd_T41 y10 x11).f0) x12 nx false _ HCi.out HCl.out A12.out).mono ?_; rintro e w64 ⟨v64, rfl, ho, hb⟩; have HN := Aside0.mk (Kd.R_mono (Kd.R_bound ho) (ok' := fun k_ => wr.heap.size ≤ k_ ∧ k_ < w64.heap.size) (fun k_ hk => ⟨hk.2.1, hk.2.2.1⟩)); have HTV := Aside0.mk HT.out; have n0_ := Aside0.mk (HT.out.below hb); have n1_ := Aside0.mk (Kd.N_below HQ.out hb); clear HT HQ ho hb; have HT := n0_; have HQ := n1_; clear n0_ n1_; obtain ⟨An, cn, en⟩ := Kd.R_slice HN.out; subst en; obtain ⟨ad2, e2, hy0, hy1, hy2, hy3⟩ := at_T39 (Kd.R_reads' HN.out).2.2 x12 c13 c14; cases e2)
                                                | (go_at_fn 26; refine (circVisit.calls w gm gt go bm a1 u x7 (rd_T39 nx x12) _ HT.out LM.out).mono ?_; rintro e w15 ⟨he, u2, st2, hk2, hat2⟩; rw [c16] at he; subst he; have n0_ := Aside0.mk st2; have n1_ := Aside0.mk (okq_queue HQ.out hk2 hat2); have n2_ := Aside0.mk (okq_next HTV.out HN.out hk2 hat2); clear HT HQ HN HTV hk2 hat2 st2; have HT := n0_; have HQ := n1_; have HN := n2_; clear n0_ n1_ n2_; have hcg : w15.cell? ⟨go, 0, none⟩ = some u2 := (blk_cell HT.out.2.2.2.2.1 0).trans rfl; obtain ⟨Au, cu, eu⟩ := Kd.R_slice HT.out.2.2.2.2.2.2.1; subst eu))
                                              go_ret2
                                              exact ⟨_, rfl, Kd.R_nil _ _ _ _ _, HT.out.2.2.2.2.2.2.2⟩
                                          · replace c16 := Bool.eq_false_iff.mpr c16
                                            rw [if_neg (by rw [c16]; decide)] at H
                                            have H' := Aside0.mk H
                                            clear H
                                            go_wp2_with (first
                                              | (go_at_call 27; refine (impl_swapCircle.calls k3 _ _ ((rd_T41 y10 x11).f0) x12 nx okb _ HCi.out HCl.out A12.out).mono ?_; rintro e w64 ⟨v64, rfl, ho, hb⟩; have HN := Aside0.mk (Kd.R_mono (Kd.R_bound ho) (ok' := fun k_ => wr.heap.size ≤ k_ ∧ k_ < w64.heap.size) (fun k_ hk => ⟨hk.2.1, hk.2.2.1⟩)); have HTV := Aside0.mk HT.out; have n0_ := Aside0.mk (HT.out.below hb); have n1_ := Aside0.mk (Kd.N_below HQ.out hb); clear HT HQ ho hb; have HT := n0_; have HQ := n1_; clear n0_ n1_; obtain ⟨An, cn, en⟩ := Kd.R_slice HN.out; subst en; obtain ⟨ad2, e2, hy0, hy1, hy2, hy3⟩ := at_T39 (Kd.R_reads' HN.out).2.2 x12 c13 c14; cases e2)
                                              | (go_at_fn 26; refine (circVisit.calls w gm gt go bm a1 u x7 (rd_T39 nx x12) _ HT.out LM.out).mono ?_; rintro e w15 ⟨he, u2, st2, hk2, hat2⟩; rw [c16] at he; subst he; have n0_ := Aside0.mk st2; have n1_ := Aside0.mk (okq_queue HQ.out hk2 hat2); have n2_ := Aside0.mk (okq_next HTV.out HN.out hk2 hat2); clear HT HQ HN HTV hk2 hat2 st2; have HT := n0_; have HQ := n1_; have HN := n2_; clear n0_ n1_ n2_; have hcg : w15.cell? ⟨go, 0, none⟩ = some u2 := (blk_cell HT.out.2.2.2.2.1 0).trans rfl; obtain ⟨Au, cu, eu⟩ := Kd.R_slice HT.out.2.2.2.2.2.2.1; subst eu))
                                            go_roundg k3
                                            case measure => have := HK1.out; have := HK2.out; have := HK3.out; omega
                                            case rel => exact ⟨(vis a1 x7 (rd_T39 nx x12)).1, y10, wrap64 (x12 + 1), _, (by first | rfl | (simp; done) | (simp [*]; done)), H', ⟨by have := HK1.out; have := HK2.out; have := HK3.out; omega⟩, HT, HQ⟩
                                        · rw [if_neg c15] at H
                                          cases H
                                      · rw [if_neg c14] at H
                                        cases H
                                    · rw [if_neg c13] at H
                                      cases H
                                · rw [if_neg c10] at H
                                  cases H
                              · rw [if_neg c9] at H
                                cases H
                            · rw [if_neg c8] at H
                              have c8b0 : decide (x12 < 4) = false := decide_eq_false c8
                              clear c8
                              have H' := Aside0.mk H
                              clear H
                              go_wp2
                              go_roundg k3
                              case measure => have := HK1.out; have := HK2.out; have := HK3.out; omega
                              case rel => exact ⟨x7, y10, wrap64 (x11 + 1), u, (by first | rfl | (simp; done) | (simp [*]; done)), H', ⟨by have := HK1.out; have := HK2.out; have := HK3.out; omega⟩, HT, HQ⟩
                      · rw [if_neg c7] at H
                        have c7b0 : decide (x11 < (x10.length : Int)) = false := decide_eq_false c7
                        clear c7
                        simp only [Option.some.injEq, Prod.mk.injEq] at H
                        obtain ⟨rfl, rfl⟩ := H
                        have hcg : World.cell? _ ⟨go, 0, none⟩ = some u := (blk_cell HT.out.2.2.2.2.1 0).trans rfl
                        obtain ⟨Au, cu, eu⟩ := Kd.R_slice HT.out.2.2.2.2.2.2.1
                        subst eu
                        go_wp2
                        go_ret2
                        exact ⟨_, rfl, Kd.R_mono HT.out.2.2.2.2.2.2.1 (fun _ _ => trivial), HT.out.2.2.2.2.2.2.2⟩

end Go.Proofs.Ytdjfcddmbhfpnaa.P
