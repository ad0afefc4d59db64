/- Written by a program of this session: for Go functions that a statement reaches, Lean functions with the same answers and the proofs that the calls come to them; conditions: none but the arguments' kinds. -/
import Derived.Test.YtgigkjcfnngdmaaP0
import Derived.Test.YtgigkjcfnngdmaaP1
import Derived.Test.YtgigkjcfnngdmaaP2
namespace Go.Proofs.Ytgigkjcfnngdmaa.P
open Go.RowKit Go.Proofs.YtgigkjcfnngdmaaW.PrintWords Go.Proofs.YtgigkjcfnngdmaaW.PrintLast Go.Proofs.YtgigkjcfnngdmaaW.PrintMore
attribute [local go_sem] max2_int min2_int max_two min_two max_three min_three max_four min_four   -- for this text's walks alone
set_option linter.unusedVariables false
set_option linter.unusedSimpArgs false

/-! ### impl_pairsBy: function 66 -/
/-- Is it a pair, as the program asks it? -/
def jmB (x y k c : Int) : Bool := (impl_isJump.f x y k c).getD false
theorem jmB_f (x y k c : Int) : impl_isJump.f x y k c = some (jmB x y k c) := by
  have h : ∃ b, impl_isJump.f x y k c = some b := by
    unfold impl_isJump.f impl_within.f
    repeat' (first | exact ⟨_, rfl⟩ | (simp only [Option.bind_some]) | split)
  obtain ⟨b, hb⟩ := h
  unfold jmB
  rw [hb]
  rfl
def ctB (k c : Int) : Bool := (impl_areConstants.f k c).getD false
theorem ctB_f (k c : Int) : impl_areConstants.f k c = some (ctB k c) := by
  have h : ∃ b, impl_areConstants.f k c = some b := by
    unfold impl_areConstants.f impl_within.f
    repeat' (first | exact ⟨_, rfl⟩ | (simp only [Option.bind_some]) | split)
  obtain ⟨b, hb⟩ := h
  unfold ctB
  rw [hb]
  rfl
def lkB (m : Int) : Bool := (impl_within.f m 0 200).getD false
theorem lkB_f (m : Int) : impl_within.f m 0 200 = some (lkB m) := by
  have h : ∃ b, impl_within.f m 0 200 = some b := by
    unfold impl_within.f
    repeat' (first | exact ⟨_, rfl⟩ | (simp only [Option.bind_some]) | split)
  obtain ⟨b, hb⟩ := h
  unfold lkB
  rw [hb]
  rfl
theorem lkB_iff {m : Int} (h : lkB m = true) : 0 ≤ m ∧ m ≤ 200 := by
  unfold lkB impl_within.f at h
  by_cases h0 : m ≥ 0
  · rw [if_pos h0] at h
    simp at h
    omega
  · rw [if_neg h0] at h
    simp at h
/-- the pairs of one x: d numbers y from y on -/
def pbIn (p : Int → Int → Bool) (k c x : Int) : Int → Nat → List (List Int) → List (List Int)
  | _, 0, out => out
  | y, d + 1, out => pbIn p k c x (y + 1) d (if jmB x y k c && p x y then out ++ [[x, y]] else out)
/-- d numbers x from x on -/
def pbOut (p : Int → Int → Bool) (k c : Int) : Int → Nat → List (List Int) → List (List Int)
  | _, 0, out => out
  | x, d + 1, out => pbOut p k c (x + 1) d (pbIn p k c x 0 (x + 1).toNat out)
def pbR (p : Int → Int → Bool) (k c m : Int) : List (List Int) × Bool :=
  if ctB k c = true then (if lkB m = true then (if ((pbOut p k c 0 (m + 1).toNat []).length : Int) > 1000 then ([], false) else (pbOut p k c 0 (m + 1).toNat [], true)) else ([], false)) else ([], false)
theorem pbIn_len (p : Int → Int → Bool) (k c x : Int) (d : Nat) : ∀ y out, (pbIn p k c x y d out).length ≤ out.length + d := by
  induction d with
  | zero => intro y out; simp [pbIn]
  | succ d ih =>
    intro y out
    simp only [pbIn]
    by_cases hq : (jmB x y k c && p x y) = true
    · rw [if_pos hq]
      have := ih (y + 1) (out ++ [[x, y]])
      simp at this
      omega
    · rw [if_neg hq]
      have := ih (y + 1) out
      omega
set_option maxHeartbeats 8000000 in
set_option maxRecDepth 100000 in
theorem impl_pairsBy.calls (g : Nat) (lb : Array Value) (eg : ∀ args w, (callFunc g args).run Try.prog w = .ok (.enter g args) w) (p : Int → Int → Bool) (a0 a1 a2 : Int) (w : World)
    (hp : ∀ (x y : Int) (W : World), Below w.heap.size w W → Calls Try.prog g (#[.int .i64 x, .int .i64 y] ++ lb) W fun e w' => e = .returned (.bool (p x y)) ∧ Below W.heap.size W w') :
    Calls Try.prog 66 #[.int .i64 a0, .int .i64 a1, .int .i64 a2, .func (.func g) #[] lb] w fun e w' => ∃ v0_ : Value, e = .returned (.tuple #[v0_, .bool (pbR p a0 a1 a2).2]) ∧ Kd.S (Kd.slice 3 (Kd.int .i64)) 44 w' w.heap.size (fun _ => True) v0_ (pbR p a0 a1 a2).1 ∧ Below w.heap.size w w' := by
  have HP := Aside0.mk hp
  have A1 := Aside0.mk (ctB_f a0 a1)
  have A2 := Aside0.mk (lkB_f a2)
  clear hp
  obtain ⟨R, hR⟩ : ∃ R, R = pbR p a0 a1 a2 := ⟨_, rfl⟩
  rw [← hR]
  unfold pbR at hR
  cases hc : ctB a0 a1 with
  | false =>
    rw [hc] at A1 hR
    rw [if_neg (by decide)] at hR
    subst hR
    clear hc
    go_enter Try.func66, Try.ntmps66
    go_wp2_with (go_at_call 55; (with_reducible refine (impl_areConstants.calls a0 a1 false _ A1.out).mono ?_); rintro e w' ⟨rfl, ⟨nd, rfl⟩⟩)
    go_ret2
    exact ⟨_, rfl, Kd.S_nil _ _ _ _ _, pw_below_drewN (Below.refl _ _) _⟩
  | true =>
    rw [hc] at A1 hR
    rw [if_pos rfl] at hR
    clear hc
    cases hl : lkB a2 with
    | false =>
      rw [hl] at A2 hR
      rw [if_neg (by decide)] at hR
      subst hR
      clear hl
      go_enter Try.func66, Try.ntmps66
      go_wp2_with (first | (go_at_call 55; (with_reducible refine (impl_areConstants.calls a0 a1 true _ A1.out).mono ?_); rintro e w' ⟨rfl, ⟨nd, rfl⟩⟩) | (go_at_call 52; (with_reducible refine (impl_within.calls a2 0 200 false _ A2.out).mono ?_); rintro e w' ⟨rfl, ⟨nd2, rfl⟩⟩))
      go_ret2
      exact ⟨_, rfl, Kd.S_nil _ _ _ _ _, by repeat (first | exact Below.refl _ _ | apply pw_below_drewN)⟩
    | true =>
      obtain ⟨hm0, hm1⟩ := lkB_iff hl
      rw [hl] at A2 hR
      rw [if_pos rfl] at hR
      clear hl
      obtain ⟨O, hO⟩ : ∃ O, O = pbOut p a0 a1 0 (a2 + 1).toNat [] := ⟨_, rfl⟩
      rw [← hO] at hR
      have HO' := Aside0.mk hO.symm
      have HR' := Aside0.mk hR
      clear hO hR
      go_enter Try.func66, Try.ntmps66
      go_wp2_with (first | (go_at_call 55; (with_reducible refine (impl_areConstants.calls a0 a1 true _ A1.out).mono ?_); rintro e w' ⟨rfl, ⟨nd, rfl⟩⟩) | (go_at_call 52; (with_reducible refine (impl_within.calls a2 0 200 true _ A2.out).mono ?_); rintro e w' ⟨rfl, ⟨nd2, rfl⟩⟩) | ((with_reducible refine gate_dst (N := 22) rfl ?_); refine Kd.S_lit (Kd.slice 3 (Kd.int .i64)) _ 44 ?hg (N := 22) ?hd (xs := ([] : List (List Int))) (inner := []) (ok := fun _ => True) (okp := fun _ => True) ?hr ?hp (fun _ hk => hk) trivial (Below.refl _ _) (Nat.le_refl _) (by simp) ?_; (case hd => rfl); (case hg => rfl); (case hr => first | (go_simp; done) | (go_simp; rfl)); (case hp => exact (Reps.none _ _)); intro v22 w2 ho3 hb hg_ hnew_; clear hg_ hnew_; have hbw : Below w.heap.size w w2 := below_step (by repeat (first | exact Below.refl _ _ | apply pw_below_drewN)) hb; have HS := Aside0.mk (show Kd.S (Kd.slice 3 (Kd.int .i64)) 44 w2 w.heap.size (fun _ => True) v22 [] from Kd.S_lower ho3 (by simp)); have HB := Aside0.mk hbw; clear hbw hb ho3))
      go_loopg [10, 25] (a2 + 1).toNat (fun gq v10 v25 wr => ∃ (x : Int) (out : List (List Int)), v25 = .int .i64 x ∧ 0 ≤ x ∧ x + gq = a2 + 1 ∧ Aside0 (out.length ≤ 300 * x.toNat) ∧ Aside0 (pbOut p a0 a1 x gq out = O) ∧ Aside0 (Kd.S (Kd.slice 3 (Kd.int .i64)) 44 wr w.heap.size (fun _ => True) v10 out) ∧ Aside0 (Below w.heap.size w wr))
      case atStart => exact ⟨0, [], rfl, by omega, by omega, ⟨by simp⟩, HO', HS, HB⟩
      case round =>
        clear HS HB HO'
        obtain ⟨x, out, rfl, hx0, hxg, HL, HA, HS, HB⟩ := hrel
        cases gk with
        | zero =>
          have hlt : decide (x < a2 + 1) = false := decide_eq_false (by omega)
          have ho := HA.out
          simp only [pbOut] at ho
          subst ho
          obtain ⟨A10, c10, e10⟩ := Kd.R_slice (Kd.S_R HS.out)
          subst e10
          have hR := HR'.out
          clear hx0 hxg
          by_cases hbig : (out.length : Int) > 1000
          · rw [if_pos hbig] at hR
            subst hR
            have hb1 : decide ((1000 : Int) < (out.length : Int)) = true := decide_eq_true hbig
            have hb2 : decide (1000 < out.length) = true := decide_eq_true (by omega)
            clear hbig HL
            go_wp2
            go_ret2
            exact ⟨_, rfl, Kd.S_nil _ _ _ _ _, HB.out⟩
          · rw [if_neg hbig] at hR
            subst hR
            have hb1 : decide ((1000 : Int) < (out.length : Int)) = false := decide_eq_false hbig
            have hb2 : decide (1000 < out.length) = false := decide_eq_false (by omega)
            clear hbig HL
            go_wp2
            go_ret2
            exact ⟨_, rfl, HS.out, HB.out⟩
        | succ g1 =>
          have hlt : decide (x < a2 + 1) = true := decide_eq_true (by omega)
          have hA := HA.out
          simp only [pbOut] at hA
          have HA1 := Aside0.mk hA
          clear HA hA
          have hx2 : x ≤ 200 := by omega
          go_wp2
          go_loopg [10, 30] (x + 1).toNat (fun gq v10 v30 wr => ∃ (y : Int) (out1 : List (List Int)), v30 = .int .i64 y ∧ 0 ≤ y ∧ y + gq = x + 1 ∧ Aside0 (out1.length ≤ 300 * x.toNat + y.toNat) ∧ Aside0 (pbOut p a0 a1 (x + 1) g1 (pbIn p a0 a1 x y gq out1) = O) ∧ Aside0 (Kd.S (Kd.slice 3 (Kd.int .i64)) 44 wr w.heap.size (fun _ => True) v10 out1) ∧ Aside0 (Below w.heap.size w wr))
          case atStart => exact ⟨0, out, rfl, by omega, by omega, ⟨by have := HL.out; simpa using this⟩, HA1, HS, HB⟩
          case round =>
            clear HS HB HA1 HL
            obtain ⟨y, out1, rfl, hy0, hyg, HL, HA, HS, HB⟩ := hrel
            cases gk with
            | zero =>
              have hlt2 : decide (y < x + 1) = false := decide_eq_false (by omega)
              have HA2 := Aside0.mk (show pbOut p a0 a1 (x + 1) g1 out1 = O from HA.out)
              have HL2 := Aside0.mk (show out1.length ≤ 300 * (x + 1).toNat by have := HL.out; omega)
              clear HA HL
              go_wp2
              go_roundg g1
              case measure => omega
              case rel => exact ⟨x + 1, out1, by first | rfl | go_num, by omega, by omega, HL2, HA2, HS, HB⟩
            | succ g2 =>
              have hlt2 : decide (y < x + 1) = true := decide_eq_true (by omega)
              have hA := HA.out
              simp only [pbIn] at hA
              have HA2 := Aside0.mk hA
              clear HA hA
              have J1 := Aside0.mk (jmB_f x y a0 a1)
              have HPC := Aside0.mk (HP.out x y)
              have hy2 : y ≤ 200 := by omega
              cases hj : jmB x y a0 a1 with
              | false =>
                rw [hj] at J1 HA2
                replace HA2 := Aside0.mk (show pbOut p a0 a1 (x + 1) g1 (pbIn p a0 a1 x (y + 1) g2 out1) = O from HA2.out)
                have HL2 := Aside0.mk (show out1.length ≤ 300 * x.toNat + (y + 1).toNat by have := HL.out; omega)
                clear hj HPC HL
                go_wp2_with (go_at_call 56; (with_reducible refine (impl_isJump.calls x y a0 a1 false _ J1.out).mono ?_); rintro e w' ⟨rfl, ⟨nd, rfl⟩⟩)
                go_roundg g2
                case measure => omega
                case rel => exact ⟨y + 1, out1, by first | rfl | go_num, by omega, by omega, HL2, HA2, ⟨Kd.S_drewN HS.out _⟩, ⟨pw_below_drewN HB.out _⟩⟩
              | true =>
                rw [hj] at J1 HA2
                clear hj
                cases hq : p x y with
                | false =>
                  rw [hq] at HPC HA2
                  replace HA2 := Aside0.mk (show pbOut p a0 a1 (x + 1) g1 (pbIn p a0 a1 x (y + 1) g2 out1) = O from HA2.out)
                  have HL2 := Aside0.mk (show out1.length ≤ 300 * x.toNat + (y + 1).toNat by have := HL.out; omega)
                  clear hq HL
                  go_wp2_with (first | (go_at_call 56; (with_reducible refine (impl_isJump.calls x y a0 a1 true _ J1.out).mono ?_); rintro e w' ⟨rfl, ⟨nd, rfl⟩⟩) | (go_at_fn g; refine (HPC.out _ (by repeat (first | exact HB.out | apply pw_below_drewN))).mono ?_; rintro e w' ⟨rfl, hb⟩; have HS2 := Aside0.mk (Kd.S_below (by repeat (first | exact HS.out | apply Kd.S_drewN)) hb); have HB2 := Aside0.mk (below_step (by repeat (first | exact HB.out | apply pw_below_drewN)) hb); clear hb))
                  go_roundg g2
                  case measure => omega
                  case rel => exact ⟨y + 1, out1, by first | rfl | go_num, by omega, by omega, HL2, HA2, HS2, HB2⟩
                | true =>
                  rw [hq] at HPC HA2
                  obtain ⟨y1, hy1⟩ : ∃ y_ : List Int, y_ = [x, y] := ⟨_, rfl⟩
                  replace HA2 := Aside0.mk (show pbOut p a0 a1 (x + 1) g1 (pbIn p a0 a1 x (y + 1) g2 (out1 ++ [y1])) = O by rw [hy1]; exact HA2.out)
                  have Ny1 := Aside0.mk hy1
                  have HL2 := Aside0.mk (show (out1 ++ [y1]).length ≤ 300 * x.toNat + (y + 1).toNat by have := HL.out; simp; omega)
                  have LM := Aside0.mk (show out1.length ≤ 100000 by have := HL.out; omega)
                  obtain ⟨Ao, co, eo⟩ := Kd.R_slice (Kd.S_R HS.out)
                  subst eo
                  clear hq hy1 HL
                  go_wp2_with (first | (go_at_call 56; (with_reducible refine (impl_isJump.calls x y a0 a1 true _ J1.out).mono ?_); rintro e w' ⟨rfl, ⟨nd, rfl⟩⟩) | (go_at_fn g; refine (HPC.out _ (by repeat (first | exact HB.out | apply pw_below_drewN))).mono ?_; rintro e w' ⟨rfl, hb⟩; have HS2 := Aside0.mk (Kd.S_below (by repeat (first | exact HS.out | apply Kd.S_drewN)) hb); have HB2 := Aside0.mk (below_step (by repeat (first | exact HB.out | apply pw_below_drewN)) hb); clear hb HS HB) | ((with_reducible refine gate_dst (N := 47) rfl ?_); refine Kd.R_lit (Kd.int .i64) _ 3 ?hg (N := 47) ?hd (xs := ([x, y] : List Int)) (inner := [.int .i64 x, .int .i64 y]) (ok := fun _ => True) (okp := fun _ => True) ?hr ?hp (fun _ hk => hk) trivial (Below.refl _ _) (Nat.le_refl _) (by simp) ?_; (case hd => rfl); (case hg => rfl); (case hr => first | (go_simp; done) | (go_simp; rfl)); (case hp => exact (Reps.one (show Kd.M (Kd.int .i64) _ _ _ x [.int .i64 x] from rfl) (Reps.one (show Kd.M (Kd.int .i64) _ _ _ y [.int .i64 y] from rfl) (Reps.none _ _)))); intro v47 w3 ho hb hg_ hnew_; clear hg_ hnew_; (first | rw [← Ny1.out] at ho | (simp only [Int.reduceToNat] at ho; rw [← Ny1.out] at ho)); have HS3 := Aside0.mk (Kd.S_elder' HS2.out (Kd.R_base ho) hb); have HO3 := Aside0.mk (Kd.R_lower ho HB2.out.size); have HB3 := Aside0.mk (below_step HB2.out hb); clear hb ho HS2 HB2; obtain ⟨Ar, cr, er⟩ := Kd.R_slice HO3.out; subst er) | ((with_reducible refine gate_builtin (b := .append) (xs := #[.tmp 44, .tmp 48]) rfl ?_); at_builtin; refine Kd.S_append (Kd.slice 3 (Kd.int .i64)) (w0 := w) w.heap.size rfl (.tmp 44) (.tmp 48) 32 44 (.slice none 0 0) 24 rfl Try.underlying32 info44 rfl (by decide) (by omega) (.slice Ao out1.length co) out1 y1 [.slice Ar y1.length cr] (fun _ => True) (fun k_ => some k_ = (.slice Ar y1.length cr : Value).ownBlock) rfl rfl ?aP (fun k_ hk_ => ⟨trivial, ((Kd.R_apart' HO3.out (Kd.S_typed HS3.out) (by decide)).1 k_ hk_.symm).2⟩) ?aF ?aO ?aB ?aS ?aL ?_; (case aP => exact Kd.M_row (Kd.R_tight rfl HO3.out)); (case aB => exact HB3.out); (case aF => exact (fun _ _ => trivial)); (case aO => exact Kd.S_mono HS3.out (fun k_ hk => ⟨trivial, fun e_ => hk.2 e_⟩)); (case aS => exact HB3.out.size); (case aL => have := LM.out; omega); intro v49 w4 ho hb hg hat; have HS4 := Aside0.mk ho; have HB4 := Aside0.mk hb; clear HB3 HS3 HO3 ho hb hg hat))
                  go_roundg g2
                  case measure => omega
                  case rel => exact ⟨y + 1, out1 ++ [y1], by first | rfl | go_num, by omega, by omega, HL2, HA2, HS4, HB4⟩

/-! ### impl_PairsUpTo_1: function 67 -/
def impl_PairsUpTo_1.f (a0 : Int) (a1 : Int) : Option (Bool) := some true
set_option maxHeartbeats 8000000 in
set_option maxRecDepth 100000 in
theorem impl_PairsUpTo_1.calls (a0 : Int) (a1 : Int) (r : Bool) (w : World) (h : impl_PairsUpTo_1.f a0 a1 = some r) :
    Calls Try.prog 67 #[.int .i64 a0, .int .i64 a1] w fun e w' => e = .returned (.bool r) ∧ Drawn0 w w' := by
  have H : (some true) = some r := h
  clear h
  obtain rfl := Option.some.inj H
  go_enter Try.func67, Try.ntmps67
  go_wp2
  go_ret
  exact ⟨by first | rfl | (simp; done) | (simp [*]; done), by repeat (first | exact Drawn0.refl _ | apply Drawn0.step)⟩

/-! ### impl_PairsUpTo: function 46 -/
def impl_PairsUpTo.f (a0 a1 a2 : Int) : Option (List (List Int) × Bool) := some (pbR (fun _ _ => true) a0 a1 a2)
set_option maxHeartbeats 8000000 in
set_option maxRecDepth 100000 in
theorem impl_PairsUpTo.always (x y : Int) (W : World) : Calls Try.prog 67 (#[.int .i64 x, .int .i64 y] ++ #[]) W fun e w' => e = .returned (.bool true) ∧ Below W.heap.size W w' := by
  go_enter Try.func67, Try.ntmps67
  go_wp2
  go_ret
  exact ⟨rfl, Below.refl _ _⟩
set_option maxHeartbeats 8000000 in
set_option maxRecDepth 100000 in
theorem impl_PairsUpTo.calls (a0 a1 a2 : Int) (r1 : List (List Int)) (r2 : Bool) (w : World) (h : impl_PairsUpTo.f a0 a1 a2 = some (r1, r2)) :
    Calls Try.prog 46 #[.int .i64 a0, .int .i64 a1, .int .i64 a2] w fun e w' => ∃ v0_ : Value, e = .returned (.tuple #[v0_, .bool r2]) ∧ Kd.S (Kd.slice 3 (Kd.int .i64)) 44 w' w.heap.size (fun _ => True) v0_ r1 ∧ Below w.heap.size w w' := by
  have h' : (r1, r2) = pbR (fun _ _ => true) a0 a1 a2 := (Option.some.inj h).symm
  have e1 : r1 = (pbR (fun _ _ => true) a0 a1 a2).1 := by rw [← h']
  have e2 : r2 = (pbR (fun _ _ => true) a0 a1 a2).2 := by rw [← h']
  have eg := enters_of Try.func67 (by kernel_rfl) rfl
  have HC := Aside0.mk (impl_pairsBy.calls 67 #[] eg (fun _ _ => true) a0 a1 a2 w (fun x y W _ => impl_PairsUpTo.always x y W))
  rw [← e1, ← e2] at HC
  clear h h' e1 e2 eg
  go_enter Try.func46, Try.ntmps46
  go_wp2_with fail
  refine HC.out.mono ?_
  rintro e w1 ⟨v, rfl, hs, hb⟩
  have HS := Aside0.mk hs
  have HB := Aside0.mk hb
  clear hs hb
  go_wp2
  go_ret2
  exact ⟨_, rfl, HS.out, HB.out⟩

end Go.Proofs.Ytgigkjcfnngdmaa.P
