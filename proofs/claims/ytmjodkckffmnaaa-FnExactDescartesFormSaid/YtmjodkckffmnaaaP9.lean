/- Written by a program of this session: for Go functions that a statement reaches, Lean functions with the same answers and the proofs that the calls come to them; conditions: none but the arguments' kinds. -/
import Derived.Test.YtmjodkckffmnaaaP0
namespace Go.Proofs.Ytmjodkckffmnaaa.P
open Go.RowKit Go.Proofs.YtmjodkckffmnaaaW.PrintWords Go.Proofs.YtmjodkckffmnaaaW.PrintLast Go.Proofs.YtmjodkckffmnaaaW.PrintMore
attribute [local go_sem] max2_int min2_int max_two min_two max_three min_three max_four min_four   -- for this text's walks alone
set_option linter.unusedVariables false
set_option linter.unusedSimpArgs false

/-! ### impl_made: function 66 -/
/-- one row of a made matrix -/
def mdIn (p : Int → Int → Int) (x : Int) : Int → Nat → List Int → List Int
  | _, 0, row => row
  | y, d + 1, row => mdIn p x (y + 1) d (row ++ [p x y])
/-- its rows -/
def mdOut (p : Int → Int → Int) (n : Nat) : Int → Nat → List (List Int) → List (List Int)
  | _, 0, out => out
  | x, d + 1, out => mdOut p n (x + 1) d (out ++ [mdIn p x 0 n []])
set_option maxHeartbeats 8000000 in
set_option maxRecDepth 100000 in
theorem impl_made.calls (g : Nat) (lb : Array Value) (eg : ∀ args w, (callFunc g args).run Try.prog w = .ok (.enter g args) w) (p : Int → Int → Int) (n : Nat) (hn : n ≤ 1000) (R : List (List Int)) (hR : mdOut p n 0 n [] = R) (w : World)
    (hp : ∀ (x y : Int) (W : World), Below w.heap.size w W → Calls Try.prog g (#[.int .i64 x, .int .i64 y] ++ lb) W fun e w' => e = .returned (.int .i64 (p x y)) ∧ Below W.heap.size W w') :
    Calls Try.prog 66 #[.int .i64 n, .func (.func g) #[] lb] w fun e w' => ∃ v0_ : Value, e = .returned (.agg #[v0_]) ∧ Kd.S (Kd.slice 3 (Kd.int .i64)) 22 w' w.heap.size (fun _ => True) v0_ R ∧ Below w.heap.size w w' := by
  have hu28 := Try.underlying28
  have HP := Aside0.mk hp
  have HR := Aside0.mk hR
  have HB := Aside0.mk (Below.refl w.heap.size w)
  clear hp hR
  go_enter Try.func66, Try.ntmps66
  go_wp2_with (first | ((with_reducible refine gate_dst (N := 4) rfl ?_); refine box_event ?hg (N := 4) ?hd (cs := #[.slice none 0 0]) (t := 28) ?hr ?_; (case hd => rfl); (case hg => rfl); (case hr => first | (go_simp; done) | (go_simp; rfl)); intro gb1 hg w2 hbox hb; have n0_ := Aside0.mk (below_step HB.out hb); have BK1 := Aside0.mk hbox; have GE1 := Aside0.mk (show w.heap.size ≤ gb1 by rw [hg]; exact below_size HB.out); clear HB hb hbox hg; have HB := n0_; clear n0_) | ((with_reducible refine gate_dst (N := 5) rfl ?_); refine box_event ?hg (N := 5) ?hd (cs := #[.slice none 0 0]) (t := 28) ?hr ?_; (case hd => rfl); (case hg => rfl); (case hr => first | (go_simp; done) | (go_simp; rfl)); intro gb2 hg w3 hbox hb; have n0_ := Aside0.mk (below_step HB.out hb); have BK2 := Aside0.mk hbox; have GE2 := Aside0.mk (show w.heap.size ≤ gb2 by rw [hg]; exact below_size HB.out); have NB12 := Aside0.mk (show gb1 ≠ gb2 by rw [hg]; exact Nat.ne_of_lt (blk_lt BK1.out)); have NB21 := Aside0.mk (show gb2 ≠ gb1 by rw [hg]; exact Nat.ne_of_gt (blk_lt BK1.out)); have n1_ := Aside0.mk (blk_below BK1.out hb); clear HB BK1 hb hbox hg; have HB := n0_; have BK1 := n1_; clear n0_ n1_; have hnb4 := NB21.out; have hnc4 := NB12.out; have hcz5_0 : w3.cell? ⟨gb2, 0, none⟩ = some (.slice none 0 0) := (blk_cell BK2.out 0).trans rfl; have hfz5_0 := blk_frozen BK2.out 0))
  go_loopg [11] n (fun gq v11 wr => ∃ (x : Int) (out : List (List Int)) (u : Value), v11 = .int .i64 x ∧ 0 ≤ x ∧ x + gq = n ∧ Aside0 (out.length ≤ x.toNat) ∧ Aside0 (mdOut p n x gq out = R) ∧ Aside0 (Kd.S (Kd.slice 3 (Kd.int .i64)) 22 wr w.heap.size (fun _ => True) u out) ∧ Aside0 (wr.heap[gb1]? = some (.cells #[.slice none 0 0] 28 (0, 0))) ∧ Aside0 (wr.heap[gb2]? = some (.cells #[u] 28 (0, 0))) ∧ Aside0 (Below w.heap.size w wr))
  case atStart => exact ⟨0, [], .slice none 0 0, rfl, by omega, by omega, ⟨by simp⟩, HR, ⟨Kd.S_nil _ _ _ _ _⟩, ⟨by refine blk_far ?_ NB12.out _; exact BK1.out⟩, ⟨by refine blk_put (cs := #[.slice none 0 0]) ?_ 0 _ rfl; exact BK2.out⟩, ⟨by repeat (first | exact HB.out | refine below_set ?_ GE2.out)⟩⟩
  case round =>
    clear HB BK1 BK2
    try clear hcz5_0
    try clear hfz5_0
    obtain ⟨x, out, u, rfl, hx0, hxg, HL, HA, HS, BK1, BK2, HB⟩ := hrel
    cases gk with
    | zero =>
      have hlt : decide (x < (n : Int)) = false := decide_eq_false (by omega)
      have ho := HA.out
      simp only [mdOut] at ho
      subst ho
      obtain ⟨Au, cu, eu⟩ := Kd.S_slice HS.out
      subst eu
      have hnb4 := NB21.out
      have hnc4 := NB12.out
      have hcz1 : wr.cell? ⟨gb2, 0, none⟩ = some (.slice Au out.length cu) := (blk_cell BK2.out 0).trans rfl
      have hfz1 := blk_frozen BK2.out 0
      have hcz2 : wr.cell? ⟨gb1, 0, none⟩ = some (.slice none 0 0) := (blk_cell BK1.out 0).trans rfl
      have hfz2 := blk_frozen BK1.out 0
      clear hx0 hxg HL HR
      go_wp2
      refine bodyPost_ret (results_cell_row rfl _ _ gb1 28 #[.slice Au out.length cu] (0, 0) _ rfl (by refine blk_put (cs := #[.slice none 0 0]) ?_ 0 _ rfl; exact BK1.out) Try.underlying28 rfl (by kernel_rfl)) rfl ?_
      exact ⟨_, rfl, Kd.S_mono (Kd.S_far (p := ⟨gb1, 0, none⟩) (Kd.S_types HS.out BK1.out (by decide)) (fun _ hk => hk.2) _) (fun _ _ => trivial), below_set HB.out GE1.out⟩
    | succ g1 =>
      have hlt : decide (x < (n : Int)) = true := decide_eq_true (by omega)
      have hA := HA.out
      simp only [mdOut] at hA
      have HA1 := Aside0.mk hA
      clear HA hA
      have hx2 : x ≤ 1000 := by omega
      go_wp2_with ((with_reducible refine gate_dst (N := 14) rfl ?_); refine Kd.R_lit (Kd.int .i64) _ 3 ?hg (N := 14) ?hd (xs := ([] : List Int)) (inner := []) (ok := fun _ => True) (okp := fun _ => True) ?hr ?hp (fun _ hk => hk) trivial (Below.refl _ _) (Nat.le_refl _) (by simp) ?_; (case hd => rfl); (case hg => rfl); (case hr => first | (go_simp; done) | (go_simp; rfl)); (case hp => exact (Reps.none _ _)); intro v14 w4 ho hb hg_ hnew_; clear hg_ hnew_; have n0_ := Aside0.mk (below_step HB.out hb); have n1_ := Aside0.mk (blk_below BK1.out hb); have n2_ := Aside0.mk (blk_below BK2.out hb); have HO := Aside0.mk (Kd.R_lower ho (below_size HB.out)); have n3_ := Aside0.mk (Kd.S_mono (Kd.S_elder' HS.out (Kd.R_base ho) hb) (fun _ hk => hk.2)); clear HB BK1 BK2 HS hb ho; have HB := n0_; have BK1 := n1_; have BK2 := n2_; have HS := n3_; clear n0_ n1_ n2_ n3_)
      go_loopg [7, 16] n (fun gq v7 v16 wr => ∃ (y : Int) (row : List Int), v16 = .int .i64 y ∧ 0 ≤ y ∧ y + gq = n ∧ Aside0 (row.length ≤ y.toNat) ∧ Aside0 (mdOut p n (x + 1) g1 (out ++ [mdIn p x y gq row]) = R) ∧ Aside0 (Kd.R (Kd.int .i64) 3 wr w.heap.size (fun _ => True) v7 row) ∧ Aside0 (Kd.S (Kd.slice 3 (Kd.int .i64)) 22 wr w.heap.size (fun k_ => some k_ ≠ v7.ownBlock) u out) ∧ Aside0 (wr.heap[gb1]? = some (.cells #[.slice none 0 0] 28 (0, 0))) ∧ Aside0 (wr.heap[gb2]? = some (.cells #[u] 28 (0, 0))) ∧ Aside0 (Below w.heap.size w wr))
      case atStart => exact ⟨0, [], rfl, by omega, by omega, ⟨by simp⟩, HA1, HO, HS, BK1, BK2, HB⟩
      case round =>
        clear HS HB HA1 HO BK1 BK2
        obtain ⟨y, row, rfl, hy0, hyg, HLr, HA, HO, HS, BK1, BK2, HB⟩ := hrel
        obtain ⟨A7, c7, e7⟩ := Kd.R_slice HO.out
        subst e7
        cases gk with
        | zero =>
          have hlt2 : decide (y < (n : Int)) = false := decide_eq_false (by omega)
          obtain ⟨z, hz⟩ : ∃ z_ : List (List Int), z_ = out ++ [row] := ⟨_, rfl⟩
          have HA2 := Aside0.mk (show mdOut p n (x + 1) g1 z = R by rw [hz]; exact HA.out)
          have HL2 := Aside0.mk (show z.length ≤ (x + 1).toNat by have := HL.out; rw [hz]; simp; omega)
          have Nz := Aside0.mk hz
          clear hz
          have LM := Aside0.mk (show out.length ≤ 1000 by have := HL.out; omega)
          clear HA HL
          have hnb4 := NB21.out
          have hnc4 := NB12.out
          obtain ⟨Au, cu, eu⟩ := Kd.S_slice HS.out
          subst eu
          have hcz1 : wr.cell? ⟨gb2, 0, none⟩ = some (.slice Au out.length cu) := (blk_cell BK2.out 0).trans rfl
          have hfz1 := blk_frozen BK2.out 0
          go_wp2_with ((with_reducible refine gate_builtin (b := .append) (xs := #[.tmp 28, .tmp 30]) rfl ?_); at_builtin; refine Kd.S_append (Kd.slice 3 (Kd.int .i64)) (w0 := w) w.heap.size rfl (.tmp 28) (.tmp 30) 26 22 (.slice none 0 0) 24 rfl Try.underlying26 info22 rfl (by decide) (by omega) (.slice Au out.length cu) out row [.slice A7 row.length c7] (fun _ => True) (fun k_ => some k_ = (.slice A7 row.length c7 : Value).ownBlock) rfl rfl ?aP (fun k_ hk_ => ⟨trivial, ((Kd.R_apart' HO.out (Kd.S_typed HS.out) (by decide)).1 k_ hk_.symm).2⟩) ?aF ?aO ?aB ?aS ?aL ?_; (case aP => exact Kd.M_row (Kd.R_tight rfl HO.out)); (case aB => exact HB.out); (case aF => exact (fun _ _ => trivial)); (case aO => exact Kd.S_mono HS.out (fun k_ hk => ⟨trivial, hk⟩)); (case aS => exact below_size HB.out); (case aL => have := LM.out; omega); intro v31 w5 ho hb hg hat; rw [← Nz.out] at ho; have n0_ := Aside0.mk (blk_grown BK1.out hg (Kd.S_ne HS.out BK1.out (by decide))); have n1_ := Aside0.mk (blk_grown BK2.out hg (Kd.S_ne HS.out BK2.out (by decide))); have n2_ := Aside0.mk hb; have n3_ := Aside0.mk ho; clear BK1 BK2 HB HS HO hcz1 hfz1 ho hb hg hat; have BK1 := n0_; have BK2 := n1_; have HB := n2_; have HS := n3_; clear n0_ n1_ n2_ n3_; have hcz3 : w5.cell? ⟨gb2, 0, none⟩ = some (.slice Au out.length cu) := (blk_cell BK2.out 0).trans rfl; have hfz3 := blk_frozen BK2.out 0; obtain ⟨Av, cv, ev⟩ := Kd.S_slice HS.out; subst ev)
          go_roundg g1
          case measure => omega
          case rel => exact ⟨x + 1, z, _, by first | rfl | go_num, by omega, by omega, HL2, HA2, ⟨Kd.S_mono (Kd.S_far (p := ⟨gb2, 0, none⟩) (Kd.S_types HS.out BK2.out (by decide)) (fun _ hk => hk.2) _) (fun _ _ => trivial)⟩, ⟨blk_far BK1.out NB12.out _⟩, ⟨by refine blk_put (cs := #[.slice Au out.length cu]) ?_ 0 _ rfl; exact BK2.out⟩, ⟨below_set HB.out GE2.out⟩⟩
        | succ g2 =>
          have hlt2 : decide (y < (n : Int)) = true := decide_eq_true (by omega)
          have hA := HA.out
          simp only [mdIn] at hA
          have HA2 := Aside0.mk hA
          clear HA hA
          have HPC := Aside0.mk (HP.out x y)
          have hy2 : y ≤ 1000 := by omega
          have HL2 := Aside0.mk (show (row ++ [p x y]).length ≤ (y + 1).toNat by have := HLr.out; simp; omega)
          have LM := Aside0.mk (show row.length ≤ 1000 by have := HLr.out; omega)
          clear HLr
          generalize p x y = pv at HPC HA2 HL2
          go_wp2_with (first | (go_at_fn g; refine (HPC.out _ (by repeat (first | exact HB.out | apply pw_below_drewN))).mono ?_; rintro e w' ⟨rfl, hb⟩; have n0_ := Aside0.mk (below_step (by repeat (first | exact HB.out | apply pw_below_drewN)) hb); have n1_ := Aside0.mk (Kd.R_below HO.out hb); have n2_ := Aside0.mk (Kd.S_below HS.out hb); have n3_ := Aside0.mk (blk_below BK1.out hb); have n4_ := Aside0.mk (blk_below BK2.out hb); clear HB HO HS BK1 BK2 hb; have HB := n0_; have HO := n1_; have HS := n2_; have BK1 := n3_; have BK2 := n4_; clear n0_ n1_ n2_ n3_ n4_) | ((with_reducible refine gate_builtin (b := .append) (xs := #[.tmp 19, .tmp 24]) rfl ?_); at_builtin; refine Kd.R_append (Kd.int .i64) (w0 := w) w.heap.size rfl (.tmp 19) (.tmp 24) 22 3 (.int .i64 0) 8 rfl Try.underlying22 info3 rfl (by decide) (by omega) (.slice A7 row.length c7) row pv [.int .i64 pv] (fun _ => True) (fun _ => False) rfl rfl ?aP (fun _ hk => hk.elim) ?aF ?aO ?aB ?aS ?aL ?_; (case aP => exact rfl); (case aB => exact HB.out); (case aF => exact (fun _ _ => trivial)); (case aO => exact HO.out); (case aS => exact below_size HB.out); (case aL => have := LM.out; omega); intro v25 w6 ho hb hg hat; have n0_ := Aside0.mk (Kd.S_mono (Kd.S_after (ok := fun _ => True) (Kd.S_mono HS.out (fun _ hk => ⟨trivial, hk⟩)) hg hat) (fun _ hk => hk.2)); have n1_ := Aside0.mk (blk_grown BK1.out hg (Kd.R_ne HO.out BK1.out (by decide))); have n2_ := Aside0.mk (blk_grown BK2.out hg (Kd.R_ne HO.out BK2.out (by decide))); have n3_ := Aside0.mk hb; have n4_ := Aside0.mk ho; clear HS BK1 BK2 HB HO ho hb hg hat; have HS := n0_; have BK1 := n1_; have BK2 := n2_; have HB := n3_; have HO := n4_; clear n0_ n1_ n2_ n3_ n4_))
          go_roundg g2
          case measure => omega
          case rel => exact ⟨y + 1, row ++ [pv], by first | rfl | go_num, by omega, by omega, HL2, HA2, HO, HS, BK1, BK2, HB⟩

/-! ### impl_DescartesForm_1: function 67 -/
def impl_DescartesForm_1.f (a0 : Int) (a1 : Int) : Option (Int) := if a0 = a1 then (some (-1)) else (some 1)
set_option maxHeartbeats 8000000 in
set_option maxRecDepth 100000 in
theorem impl_DescartesForm_1.calls (a0 : Int) (a1 : Int) (r : Int) (w : World) (h : impl_DescartesForm_1.f a0 a1 = some r) :
    Calls Try.prog 67 #[.int .i64 a0, .int .i64 a1] w fun e w' => e = .returned (.int .i64 r) ∧ Drawn0 w w' := by
  have H : (if a0 = a1 then (some (-1)) else (some 1)) = some r := h
  clear h
  by_cases c3 : a0 = a1
  · rw [if_pos c3] at H
    have c3b0 : (a0 == a1) = true := beq_iff_eq.mpr c3
    have c3b1 : (a0 != a1) = false := bne_eq_false_iff_eq.mpr c3
    clear c3
    obtain rfl := Option.some.inj H
    go_enter Try.func67, Try.ntmps67
    go_wp2
    go_ret
    exact ⟨by first | rfl | (simp; done) | (simp [*]; done), by repeat (first | exact Drawn0.refl _ | apply Drawn0.step)⟩
  · rw [if_neg c3] at H
    have c3b0 : (a0 == a1) = false := beq_eq_false_iff_ne.mpr c3
    have c3b1 : (a0 != a1) = true := bne_iff_ne.mpr c3
    obtain rfl := Option.some.inj H
    go_enter Try.func67, Try.ntmps67
    go_wp2
    go_ret
    exact ⟨by first | rfl | (simp; done) | (simp [*]; done), by repeat (first | exact Drawn0.refl _ | apply Drawn0.step)⟩

/-! ### impl_DescartesForm: function 24 -/
def dfP (x y : Int) : Int := if x = y then -1 else 1
def impl_DescartesForm.f : Option (List (List Int)) := some (mdOut dfP 4 0 4 [])
set_option maxHeartbeats 8000000 in
set_option maxRecDepth 100000 in
theorem impl_DescartesForm.at_ (x y : Int) (W : World) : Calls Try.prog 67 (#[.int .i64 x, .int .i64 y] ++ #[]) W fun e w' => e = .returned (.int .i64 (dfP x y)) ∧ Below W.heap.size W w' := by
  unfold dfP
  by_cases h : x = y
  · rw [if_pos h]
    subst h
    go_enter Try.func67, Try.ntmps67
    go_wp2
    go_ret
    exact ⟨rfl, Below.refl _ _⟩
  · rw [if_neg h]
    have hd : decide (x = y) = false := decide_eq_false h
    go_enter Try.func67, Try.ntmps67
    go_wp2
    go_ret
    exact ⟨rfl, Below.refl _ _⟩
set_option maxHeartbeats 8000000 in
set_option maxRecDepth 100000 in
theorem impl_DescartesForm.calls (r : List (List Int)) (w : World) (h : impl_DescartesForm.f = some r) :
    Calls Try.prog 24 #[] w fun e w' => ∃ v0_ : Value, e = .returned (.agg #[v0_]) ∧ Kd.S (Kd.slice 3 (Kd.int .i64)) 22 w' w.heap.size (fun _ => True) v0_ r ∧ Below w.heap.size w w' := by
  have hu28 := Try.underlying28
  have hr := Option.some.inj h
  have eg := enters_of Try.func67 (by kernel_rfl) rfl
  have HC := Aside0.mk (fun W => impl_made.calls 67 #[] eg dfP 4 (by omega) r hr W (fun x y W' _ => impl_DescartesForm.at_ x y W'))
  have HB := Aside0.mk (Below.refl w.heap.size w)
  clear h hr eg
  go_enter Try.func24, Try.ntmps24
  go_wp2_with (first | ((with_reducible refine gate_dst (N := 0) rfl ?_); refine box_event ?hg (N := 0) ?hd (cs := #[.slice none 0 0]) (t := 28) ?hr ?_; (case hd => rfl); (case hg => rfl); (case hr => first | (go_simp; done) | (go_simp; rfl)); intro gb1 hg w2 hbox hb; have n0_ := Aside0.mk (below_step HB.out hb); have BK1 := Aside0.mk hbox; have GE1 := Aside0.mk (show w.heap.size ≤ gb1 by rw [hg]; exact below_size HB.out); clear HB hb hbox hg; have HB := n0_; clear n0_) | (go_at_call 66; refine (HC.out _).mono ?_; rintro e w3 ⟨v4, rfl, hs, hb⟩; have HS := Aside0.mk (Kd.S_lower hs (below_size HB.out)); have n0_ := Aside0.mk (below_step HB.out hb); have n1_ := Aside0.mk (blk_below BK1.out hb); clear HB BK1 hb hs; have HB := n0_; have BK1 := n1_; clear n0_ n1_; obtain ⟨Au, cu, eu⟩ := Kd.S_slice HS.out; subst eu; have hcz3 : w3.cell? ⟨gb1, 0, none⟩ = some (.slice none 0 0) := (blk_cell BK1.out 0).trans rfl; have hfz3 := blk_frozen BK1.out 0))
  refine bodyPost_ret (results_cell_row rfl _ _ gb1 28 #[.slice Au r.length cu] (0, 0) _ rfl (by refine blk_put (cs := #[.slice none 0 0]) ?_ 0 _ rfl; exact BK1.out) Try.underlying28 rfl (by kernel_rfl)) rfl ?_
  exact ⟨_, rfl, Kd.S_mono (Kd.S_far (p := ⟨gb1, 0, none⟩) (Kd.S_types HS.out BK1.out (by decide)) (fun _ hk => hk.2) _) (fun _ _ => trivial), below_set HB.out GE1.out⟩

end Go.Proofs.Ytmjodkckffmnaaa.P
