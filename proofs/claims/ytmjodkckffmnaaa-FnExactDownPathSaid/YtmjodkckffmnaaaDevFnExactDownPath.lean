import Derived.Test.YtmjodkckffmnaaaP0
import Derived.Test.YtmjodkckffmnaaaP3
import Derived.Test.YtmjodkckffmnaaaP5
import Derived.Test.YtmjodkckffmnaaaP9
import Derived.Test.YtmjodkckffmnaaaP10
import Derived.Test.YtmjodkckffmnaaaP11
import Derived.Test.YtmjodkckffmnaaaP12
import Derived.Test.YtmjodkckffmnaaaP34
import Derived.Test.YtmjodkckffmnaaaP38
namespace Go.Proofs.Ytmjodkckffmnaaa.P
open Go.RowKit Go.Proofs.YtmjodkckffmnaaaW.PrintWords Go.Proofs.YtmjodkckffmnaaaW.PrintLast Go.Proofs.YtmjodkckffmnaaaW.PrintMore
set_option linter.unusedVariables false
set_option linter.unusedSimpArgs false
attribute [local go_sem] max2_int min2_int max_two min_two max_three min_three max_four min_four
/-! ### laws_FnExactDownPath: function 12 -/
/-- What the law asks of plain data: both tell the same, marking and comparing go as they must, the sizes are no hindrance. -/
def laws_FnExactDownPath.g (k : Nat) (l0 : List Int) : Option Bool :=
  (laws_toIntS.f k l0).bind fun x => (spec_DownPath.f k x).bind fun p => (impl_DownPath.f k x).bind fun q => if p = q then ((laws_eqIntS.f k x x).bind fun e => if e = true then ((laws_markIntS.f k x 1).bind fun m => if m.1 < 0 then none else (if (p.1.length : Int) ≤ 9223372036854775806 ∧ (cellsOf p.1 : Int) + 1 ≤ 4611686018427387904 then some true else none)) else none) else none
def laws_FnExactDownPath.f (k : Nat) (l0 : List Int) : Option Bool := if (l0.length : Int) > 1048576 then some true else laws_FnExactDownPath.g k l0
structure laws_FnExactDownPath.Said (k : Nat) (l0 : List Int) (x : List Int) (r : List (List Int)) (b : Bool) (mk : Int) (x2 : List Int) : Prop where
  s1 : laws_toIntS.f k l0 = some x
  s2 : spec_DownPath.f k x = some (r, b)
  s3 : impl_DownPath.f k x = some (r, b)
  s4 : laws_eqIntS.f k x x = some true
  s5 : laws_markIntS.f k x 1 = some (mk, x2)
  s6 : ¬ mk < 0
  s7 : (r.length : Int) ≤ 9223372036854775806
  s8 : (cellsOf r : Int) + 1 ≤ 4611686018427387904
theorem laws_FnExactDownPath.said {k : Nat} {l0 : List Int} {rr : Bool} (h : laws_FnExactDownPath.g k l0 = some rr) : rr = true ∧ ∃ x r b mk x2, laws_FnExactDownPath.Said k l0 x r b mk x2 := by
  unfold laws_FnExactDownPath.g at h
  obtain ⟨x, h1, h⟩ := Option.bind_eq_some_iff.mp h
  obtain ⟨⟨r, b⟩, h2, h⟩ := Option.bind_eq_some_iff.mp h
  obtain ⟨⟨r', b'⟩, h3, h⟩ := Option.bind_eq_some_iff.mp h
  split at h
  · rename_i e
    cases e
    obtain ⟨q, h4, h⟩ := Option.bind_eq_some_iff.mp h
    split at h
    · rename_i e
      subst e
      obtain ⟨⟨mk, x2⟩, h5, h⟩ := Option.bind_eq_some_iff.mp h
      split at h
      · cases h
      · rename_i h6
        split at h
        · rename_i h7
          exact ⟨(Option.some.inj h).symm, x, r, b, mk, x2, h1, h2, h3, h4, h5, h6, h7.1, h7.2⟩
        · cases h
    · cases h
  · cases h
set_option maxHeartbeats 16000000 in
set_option maxRecDepth 100000 in
theorem laws_FnExactDownPath.calls (k : Nat) (A0 : Option Addr) (c0 : Nat) (l0 : List Int) (rr : Bool) (w : World) (hr0 : Kd.C (Kd.int .i64) w A0 l0.length l0) (hc0 : l0.length ≤ c0) (h : laws_FnExactDownPath.f k l0 = some rr) :
    Calls Try.prog 12 #[.slice A0 l0.length c0] w fun e w' => e = .returned (.bool rr) ∧ Below w.heap.size w w' := by
  have HR0 := Aside0.mk hr0
  have HC0 := Aside0.mk hc0
  clear hr0 hc0
  unfold laws_FnExactDownPath.f at h
  by_cases c1 : (l0.length : Int) > 1048576
  · rw [if_pos c1] at h
    obtain rfl := Option.some.inj h
    have c1b : decide ((1048576 : Int) < (l0.length : Int)) = true := decide_eq_true c1
    clear c1 h
    go_enter Try.func12, Try.ntmps12
    go_wp2
    go_ret
    exact ⟨rfl, by first | exact Below.refl _ _ | exact pw_below_drewN (Below.refl _ _) _⟩
  rw [if_neg c1] at h
  have c1b : decide ((1048576 : Int) < (l0.length : Int)) = false := decide_eq_false c1
  clear c1
  obtain ⟨rfl, x, r, b, mk, x2, hs⟩ := laws_FnExactDownPath.said h
  clear h
  have HS := Aside0.mk hs
  have HE := Aside0.mk (eqIntSS_refl r hs.s7 (by have := hs.s8; omega) (r.length + cellsOf r + 2) (by omega))
  have HM := Aside0.mk (markIntSS_f r (r.length + cellsOf r + 2) (by omega) hs.s7 hs.s8)
  have HH := Aside0.mk (heldIntSS_f r (r.length + cellsOf r + 2) (by omega) hs.s7 hs.s8)
  have HML := Aside0.mk (mkS_length r 1)
  have hm0 : (0 : Int) ≤ cellsOf r := by omega
  have hm1 : (cellsOf r : Int) ≤ 4611686018427387904 := by have := hs.s8; omega
  have hmk : decide (mk < 0) = false := decide_eq_false hs.s6
  clear hs
  generalize mkS 1 r = r2 at HM HH HML
  generalize hcc : (cellsOf r : Int) = c at HM HH hm0 hm1
  clear hcc
  have HB0 := Aside0.mk (Below.refl w.heap.size w)
  go_enter Try.func12, Try.ntmps12
  go_wp2_with fail
  refine (laws_toIntS.calls k _ _ l0 x _ (Kd.C_below HR0.out HB0.out) HC0.out HS.out.s1).mono ?_
  rintro e w1 ⟨vx, rfl, hR1, hb1⟩
  obtain ⟨Ax, cx, ex⟩ := Kd.R_slice hR1
  subst ex
  have HX1 := Aside0.mk (Kd.R_reads' hR1)
  have HB1 := Aside0.mk (below_step HB0.out hb1)
  clear hR1 hb1 HB0
  go_wp2_with fail
  refine (spec_DownPath.calls k _ _ x r b _ HX1.out.2.2 HX1.out.2.1 HS.out.s2).mono ?_
  rintro e w2 ⟨vw, rfl, hw, hb⟩
  replace hw := Aside0.mk (show Kd.N (Kd.slice 3 (Kd.int .i64)) 22 w2 w1.heap.size (fun _ => True) vw r from by first | exact Kd.N_mono hw (fun _ _ => trivial) | exact Kd.N_mono (Kd.S_N hw) (fun _ _ => trivial) | exact Kd.N_mono (Kd.R_N hw) (fun _ _ => trivial))
  obtain ⟨Aw, cw, ew⟩ := Kd.N_slice hw.out
  subst ew
  have HB2 := Aside0.mk (below_step HB1.out hb)
  clear hb HB1 HX1
  go_wp2_with fail
  refine (laws_toIntS.calls k _ _ l0 x _ (Kd.C_below HR0.out HB2.out) HC0.out HS.out.s1).mono ?_
  rintro e w3 ⟨vx, rfl, hR3, hb3⟩
  obtain ⟨Ax, cx, ex⟩ := Kd.R_slice hR3
  subst ex
  have HX3 := Aside0.mk (Kd.R_mono (Kd.R_bound hR3) (ok' := fun q => w2.heap.size ≤ q ∧ q < w3.heap.size) (fun _ hk => ⟨hk.2.1, hk.2.2.1⟩))
  replace hb3 := Aside0.mk hb3
  clear hR3
  go_wp2_with fail
  refine (impl_DownPath.calls k _ _ x r b _ (Kd.R_reads' HX3.out).2.2 (Kd.R_reads' HX3.out).2.1 HS.out.s3).mono ?_
  rintro e w4 ⟨vg, rfl, hg, hb4⟩
  have HG4 := Aside0.mk (show Kd.S (Kd.slice 3 (Kd.int .i64)) 22 w4 w2.heap.size (fun q => w3.heap.size ≤ q) vg r from Kd.S_lower (Kd.S_mono (Kd.S_bound hg) (fun _ hk => hk.2.1)) hb3.out.size)
  obtain ⟨Ag, cg, eg⟩ := Kd.R_slice (Kd.S_R HG4.out)
  subst eg
  have HX4 := Aside0.mk (Kd.R_below HX3.out hb4)
  have HB4 := Aside0.mk (show Below w2.heap.size w2 w4 from below_then hb3.out hb3.out.size hb4)
  have HL3 := Aside0.mk hb3.out.size
  clear hg hb3 hb4 HX3
  have heq : ∀ W, Below w2.heap.size w2 W → Kd.S (Kd.slice 3 (Kd.int .i64)) 22 W w2.heap.size (fun q => w3.heap.size ≤ q) (.slice Ag r.length cg) r → Calls Try.prog 46 #[.slice Ag r.length cg, .slice Aw r.length cw] W fun e w' => e = .returned (.bool true) ∧ Drawn0 W w' := fun W hW hG =>
    laws_eqIntSS.calls (r.length + cellsOf r + 2) Ag cg r Aw cw r true W (Kd.S_reads' hG).2.2 (Kd.S_reads' hG).2.1 (Kd.N_reads' (Kd.N_below hw.out hW)).2.2 (Kd.N_reads' hw.out).2.1 HE.out
  have HEQ := Aside0.mk heq
  clear heq
  go_wp2_with fail
  refine (HEQ.out _ HB4.out HG4.out).mono ?_
  rintro e w' ⟨rfl, ⟨nd4, rfl⟩⟩
  have HB5 := Aside0.mk (pw_below_drewN HB4.out nd4)
  have HG5 := Aside0.mk (Kd.S_drewN HG4.out nd4)
  have HX5 := Aside0.mk (Kd.R_drewN HX4.out nd4)
  clear HB4 HG4 HX4
  go_wp2_with fail
  refine (laws_toIntS.calls k _ _ l0 x _ (Kd.C_below HR0.out (below_then HB2.out HB2.out.size HB5.out)) HC0.out HS.out.s1).mono ?_
  rintro e w6 ⟨vy, rfl, hR6, hb6⟩
  obtain ⟨Ay, cy, ey⟩ := Kd.R_slice hR6
  subst ey
  have HY6 := Aside0.mk (Kd.R_reads' hR6)
  have HB6 := Aside0.mk (show Below w2.heap.size w2 w6 from below_then HB5.out HB5.out.size hb6)
  have HG6 := Aside0.mk (Kd.S_below HG5.out hb6)
  have HX6 := Aside0.mk (Kd.R_below HX5.out hb6)
  clear HB5 HG5 HX5 hR6 hb6
  go_wp2_with fail
  refine (laws_eqIntS.calls k _ _ x _ _ x true _ (Kd.R_reads' HX6.out).2.2 (Kd.R_reads' HX6.out).2.1 HY6.out.2.2 HY6.out.2.1 HS.out.s4).mono ?_
  rintro e w7 ⟨rfl, hb7⟩
  replace hb7 : Below w6.heap.size w6 w7 := by first | exact hb7 | exact hb7.below
  have HB7 := Aside0.mk (show Below w2.heap.size w2 w7 from below_then HB6.out HB6.out.size hb7)
  have HG7 := Aside0.mk (Kd.S_below HG6.out hb7)
  have HX7 := Aside0.mk (Kd.R_below HX6.out hb7)
  clear HB6 HG6 HX6 HY6 hb7
  go_wp2_with fail
  refine (laws_markIntS.calls k _ _ x 1 mk x2 w2 _ HB7.out HX7.out HS.out.s5).mono ?_
  rintro e w8 ⟨rfl, -, hb8, hk8⟩
  have HG8 := Aside0.mk (Kd.S_kept HG7.out hk8 (fun q hq hn => by omega))
  have HB8 := Aside0.mk hb8
  clear HB7 HG7 HX7 hb8 hk8
  go_wp2_with (go_at_call 46; refine (HEQ.out _ HB8.out HG8.out).mono ?_; rintro e w' ⟨rfl, ⟨nd8, rfl⟩⟩)
  refine (laws_markIntSS.calls (r.length + cellsOf r + 2) _ _ r 1 _ r2 w2 _ (pw_below_drewN HB8.out nd8) (Kd.S_drewN HG8.out nd8) HM.out).mono ?_
  rintro e w9 ⟨rfl, hg9, hb9, -⟩
  have HG9 := Aside0.mk hg9
  have HB9 := Aside0.mk hb9
  clear HB8 HG8 hg9 hb9
  have hhd : ∀ W, Below w9.heap.size w9 W → Calls Try.prog 48 #[.slice Ag r.length cg, .int .i64 1] W fun e w' => e = .returned (.int .i64 (1 + c)) ∧ Drawn0 W w' := fun W hW => by
    have hS9 := Kd.S_reads' (Kd.S_below HG9.out hW)
    have hcl := laws_heldIntSS.calls (r.length + cellsOf r + 2) Ag cg r2 1 (1 + c) W hS9.2.2 (by rw [← hS9.1]; exact hS9.2.1) HH.out
    rw [← hS9.1] at hcl
    exact hcl
  replace hhd := Aside0.mk hhd
  go_wp2_with (go_at_call 48; refine (hhd.out _ (Below.refl _ _)).mono ?_; rintro e w' ⟨rfl, ⟨nd9, rfl⟩⟩)
  refine (laws_toIntS.calls k _ _ l0 x _ (Kd.C_below HR0.out (below_then HB2.out HB2.out.size (pw_below_drewN HB9.out nd9))) HC0.out HS.out.s1).mono ?_
  rintro e w10 ⟨vz, rfl, hR10, hb10⟩
  obtain ⟨Az, cz, ez⟩ := Kd.R_slice hR10
  subst ez
  have HZ := Aside0.mk (Kd.R_reads' hR10)
  have HB10 := Aside0.mk (show Below w9.heap.size w9 w10 from below_then (pw_below_drewN (Below.refl _ _) nd9) (Nat.le_refl _) hb10)
  clear hR10 hb10
  go_wp2_with fail
  refine (impl_DownPath.calls k _ _ x r b _ HZ.out.2.2 HZ.out.2.1 HS.out.s3).mono ?_
  rintro e w11 ⟨vh, rfl, hh, hb11⟩
  obtain ⟨Ah, ch, eh⟩ := Kd.R_slice (Kd.S_R hh)
  subst eh
  have HB11 := Aside0.mk (show Below w9.heap.size w9 w11 from below_then HB10.out HB10.out.size hb11)
  have heq2 := laws_eqIntSS.calls (r.length + cellsOf r + 2) Ah ch r Aw cw r true w11 (Kd.S_reads' hh).2.2 (Kd.S_reads' hh).2.1 (Kd.N_reads' (Kd.N_below hw.out (below_then HB9.out HB9.out.size HB11.out))).2.2 (Kd.N_reads' hw.out).2.1 HE.out
  clear hh hb11 HB10 HZ
  go_wp2_with (first | (go_at_call 46; refine heq2.mono ?_; rintro e w' ⟨rfl, ⟨nd11, rfl⟩⟩; clear heq2) | (go_at_call 48; refine (hhd.out _ (by repeat (first | exact HB11.out | apply pw_below_drewN))).mono ?_; rintro e w' ⟨rfl, ⟨nd12, rfl⟩⟩))
  go_ret
  exact ⟨rfl, by repeat (first | exact below_then HB2.out HB2.out.size (below_then HB9.out HB9.out.size HB11.out) | apply pw_below_drewN)⟩


end Go.Proofs.Ytmjodkckffmnaaa.P
