/- Written by a program of this session: for Go functions that a statement reaches, Lean functions with the same answers and the proofs that the calls come to them; conditions: none but the arguments' kinds. -/
import Derived.Test.YtgigkjcfnngdmaaP0
import Derived.Test.YtgigkjcfnngdmaaP1
import Derived.Test.YtgigkjcfnngdmaaP4
namespace Go.Proofs.Ytgigkjcfnngdmaa.P
open Go.RowKit Go.Proofs.YtgigkjcfnngdmaaW.PrintWords Go.Proofs.YtgigkjcfnngdmaaW.PrintLast Go.Proofs.YtgigkjcfnngdmaaW.PrintMore
attribute [local go_sem] max2_int min2_int max_two min_two max_three min_three max_four min_four   -- for this text's walks alone
set_option linter.unusedVariables false
set_option linter.unusedSimpArgs false

/-! ### impl_KsUpTo: function 39 -/
def ksB (x lo hi : Int) : Bool := (impl_within.f x lo hi).getD false
theorem ksB_f (x lo hi : Int) : impl_within.f x lo hi = some (ksB x lo hi) := by
  have h : ∃ b, impl_within.f x lo hi = some b := by
    unfold impl_within.f
    repeat' (first | exact ⟨_, rfl⟩ | split)
  obtain ⟨b, hb⟩ := h
  unfold ksB
  rw [hb]
  rfl
theorem ksB_iff {x lo hi : Int} (h : ksB x lo hi = true) : lo ≤ x ∧ x ≤ hi := by
  unfold ksB impl_within.f at h
  by_cases h0 : x ≥ lo
  · rw [if_pos h0] at h
    simp at h
    omega
  · rw [if_neg h0] at h
    simp at h
theorem kOf_some (x y c : Int) (hx : 1 ≤ x) (hx2 : x ≤ 200) (hy : 1 ≤ y) (hy2 : y ≤ 200) : ∃ k b, impl_kOf.f x y c = some (k, b) ∧ (b = true → 1 ≤ k ∧ k ≤ 1000) := by
  have h1 : 1 * 1 ≤ x * y := Int.mul_le_mul hx hy (by omega) (by omega)
  have h2 : x * y ≤ 200 * 200 := Int.mul_le_mul hx2 hy2 (by omega) (by omega)
  have hw : wrap64 (x * y) = x * y := by unfold wrap64; omega
  unfold impl_kOf.f
  rw [hw, if_neg (show ¬ x * y = 0 by omega)]
  split
  · rw [ksB_f, Option.bind_some]
    cases ht : ksB _ 1 1000 with
    | true => exact ⟨_, _, if_pos rfl, fun _ => ksB_iff ht⟩
    | false => exact ⟨_, _, if_neg (by decide), fun h => by cases h⟩
  · exact ⟨_, _, rfl, fun h => by cases h⟩
/-- The k of a pair is marked. -/
def ksStep (c x y : Int) (L : List Bool) : List Bool :=
  match impl_kOf.f x y c with
  | some (k, true) => L.set k.toNat true
  | _ => L
def ksIn (c x : Int) : Int → Nat → List Bool → List Bool
  | _, 0, L => L
  | y, d + 1, L => ksIn c x (y + 1) d (ksStep c x y L)
def ksOut (c : Int) : Int → Nat → List Bool → List Bool
  | _, 0, L => L
  | x, d + 1, L => ksOut c (x + 1) d (ksIn c x 1 x.toNat L)
def ksSel : Int → List Bool → List Int
  | _, [] => []
  | i, b :: r => if b = true then i :: ksSel (i + 1) r else ksSel (i + 1) r
def ksR (c most : Int) : List Int × Bool :=
  if ksB c (-1000) 1000 = true then (if ksB most 0 200 = true then (ksSel 0 (ksOut c 1 most.toNat (List.replicate 1001 false)), true) else ([], false)) else ([], false)
def impl_KsUpTo.f (a0 a1 : Int) : Option (List Int × Bool) := some (ksR a0 a1)
theorem setRow_id (w : World) (g : Nat) (cs : Array Value) (t : TypeId) (h : w.heap[g]? = some (.cells cs t (0, 0))) : w.setRow g cs = w := by
  have hlt : g < w.heap.size := (Array.getElem?_eq_some_iff.1 h).1
  have hv : w.heap[g] = .cells cs t (0, 0) := (Array.getElem?_eq_some_iff.1 h).2
  unfold World.setRow
  cases w with
  | mk heap tape drawn os output =>
    congr 1
    apply Array.ext
    · simp
    · intro k h1 h2
      simp only [Array.getElem_modify]
      split
      · rename_i hk; subst hk; simp at hv; simp [hv]
      · rfl
theorem ks_zero : (Try.zeroCells55).toList = bools (List.replicate 1001 false) := by kernel_rfl
theorem ks_zero' : Try.zeroCells55 = (bools (List.replicate 1001 false)).toArray := by
  rw [← ks_zero]
theorem ks_info : (Try.prog.info? 55).map (·.size) = some 1001 := by kernel_rfl
theorem ks_one (L : List Bool) : ((bools L).toArray).all (·.oneCell') = true := by
  rw [Array.all_eq_true_iff_forall_mem]
  intro v hv
  rw [List.mem_toArray] at hv
  obtain ⟨b, _, rfl⟩ := List.mem_map.1 hv
  rfl
theorem ks_set (L : List Bool) (i : Nat) (b : Bool) : ((bools L).toArray).setIfInBounds i (.bool b) = (bools (L.set i b)).toArray := by
  rw [List.setIfInBounds_toArray]
  simp [bools, List.map_set]
theorem ks_store {P : Program} {ops : Array Oper} {rest : List Oper} {o : Oper} {a : Act} {W : World} {Q : Exit → Act → World → Prop} (hgd : o.guard = none) (ty : TypeId) (x y : Operand) (ho : o.op = .store ty x y) (hN : o.dst = none)
    (g : Nat) (cells : Array Value) (hx : a.eval x = .pointer (some ⟨g, 0, none⟩)) (hy : a.eval y = .agg cells) (t : TypeId) (hg : W.heap[g]? = some (.cells cells t (0, 0))) (hi : (P.info? ty).map (·.size) = some cells.size)
    (h1 : cells.all (·.oneCell') = true) (h : wpList P ops Q rest a W) : wpList P ops Q (o :: rest) a W := by
  refine wpList_plain hgd fun K hK => ?_
  refine wp_store_row ty x y ho g cells hx hy t cells hg hi rfl h1 ?_
  rw [hN, setRow_id W g cells t hg]
  exact hK _ _ h
theorem ks_index (L : List Bool) (hL : L.length = 1001) (i : Nat) (hi : i < 1001) (w : World) : (Instr.index 55 (.agg (bools L).toArray) (.int .i64 i)).run Try.prog w = .ok (.bool (L.getD i false)) w := by
  have hu := Try.underlying55
  have h4 := Try.isAgg4 w
  have h5 := Try.sizeOf4 w
  have hc : (bools L)[i]? = some (.bool (L.getD i false)) := by
    simp [bools, List.getD_eq_getElem?_getD, List.getElem?_eq_getElem (show i < L.length by omega)]
  unfold Instr.index
  simp only [asIntOf, Sem.run_bind, Sem.run_pure, Result.andThen_ok, run_underlying hu]
  rw [if_pos (by omega)]
  simp only [Sem.run_bind, h5, Result.andThen_ok, part, h4, Int.toNat_natCast, Nat.mul_one]
  rw [if_neg (by decide)]
  simp only [List.getElem?_toArray, hc]
  rfl
theorem ksStep_len (c x y : Int) (L : List Bool) : (ksStep c x y L).length = L.length := by
  unfold ksStep
  split <;> simp
theorem ksIn_len (c x : Int) (d : Nat) : ∀ y L, (ksIn c x y d L).length = L.length := by
  induction d with
  | zero => intro y L; rfl
  | succ d ih => intro y L; simp only [ksIn]; rw [ih, ksStep_len]
set_option maxHeartbeats 8000000 in
set_option maxRecDepth 100000 in
theorem impl_KsUpTo.calls (a0 a1 : Int) (r1 : List Int) (r2 : Bool) (w : World) (h : impl_KsUpTo.f a0 a1 = some (r1, r2)) :
    Calls Try.prog 39 #[.int .i64 a0, .int .i64 a1] w fun e w' => ∃ v0_ : Value, e = .returned (.tuple #[v0_, .bool r2]) ∧ Kd.R (Kd.int .i64) 3 w' w.heap.size (fun _ => True) v0_ r1 ∧ Below w.heap.size w w' := by
  have hR : ksR a0 a1 = (r1, r2) := Option.some.inj h
  clear h
  have A1 := Aside0.mk (ksB_f a0 (-1000) 1000)
  have A2 := Aside0.mk (ksB_f a1 0 200)
  have HB := Aside0.mk (Below.refl w.heap.size w)
  unfold ksR at hR
  cases hc : ksB a0 (-1000) 1000 with
  | false =>
    rw [hc] at A1 hR
    rw [if_neg (by decide)] at hR
    simp only [Prod.mk.injEq] at hR
    obtain ⟨rfl, rfl⟩ := hR
    clear hc
    go_enter Try.func39, Try.ntmps39
    go_wp2_with (go_at_call 52; (with_reducible refine (impl_within.calls a0 (-1000) 1000 false _ A1.out).mono ?_); rintro e w' ⟨rfl, ⟨nd, rfl⟩⟩)
    go_ret2
    exact ⟨_, rfl, Kd.R_nil _ _ _ _ _, pw_below_drewN (Below.refl _ _) _⟩
  | true =>
    rw [hc] at A1 hR
    rw [if_pos rfl] at hR
    clear hc
    cases hl : ksB a1 0 200 with
    | false =>
      rw [hl] at A2 hR
      rw [if_neg (by decide)] at hR
      simp only [Prod.mk.injEq] at hR
      obtain ⟨rfl, rfl⟩ := hR
      clear hl
      go_enter Try.func39, Try.ntmps39
      go_wp2_with (first | (go_at_call 52; (with_reducible refine (impl_within.calls a0 (-1000) 1000 true _ A1.out).mono ?_); rintro e w' ⟨rfl, ⟨nd, rfl⟩⟩; clear A1) | (go_at_call 52; (with_reducible refine (impl_within.calls a1 0 200 false _ A2.out).mono ?_); rintro e w' ⟨rfl, ⟨nd2, rfl⟩⟩))
      go_ret2
      exact ⟨_, rfl, Kd.R_nil _ _ _ _ _, by repeat (first | exact Below.refl _ _ | apply pw_below_drewN)⟩
    | true =>
      obtain ⟨hm0, hm1⟩ := ksB_iff hl
      rw [hl] at A2 hR
      rw [if_pos rfl] at hR
      simp only [Prod.mk.injEq] at hR
      obtain ⟨hR, rfl⟩ := hR
      clear hl
      obtain ⟨F, hF⟩ : ∃ F, F = ksOut a0 1 a1.toNat (List.replicate 1001 false) := ⟨_, rfl⟩
      rw [← hF] at hR
      have HF := Aside0.mk hF.symm
      have HR := Aside0.mk hR
      clear hF hR
      obtain ⟨ZC, hZ⟩ : ∃ ZC, ZC = Try.zeroCells55 := ⟨_, rfl⟩
      have HZ := Aside0.mk (hZ.trans ks_zero')
      have hzv := Try.zeroValue55
      rw [← hZ] at hzv
      have hzl : ZC.size = 1001 := by rw [HZ.out]; simp [bools]
      have hza : ZC.all (·.oneCell') = true := by rw [HZ.out]; exact ks_one _
      replace hzl := Aside0.mk hzl
      replace hza := Aside0.mk hza
      clear hZ
      go_enter Try.func39, Try.ntmps39
      go_wp2_with (first | (go_at_call 52; (with_reducible refine (impl_within.calls a0 (-1000) 1000 true _ A1.out).mono ?_); rintro e w' ⟨rfl, ⟨nd, rfl⟩⟩; clear A1) | (go_at_call 52; (with_reducible refine (impl_within.calls a1 0 200 true _ A2.out).mono ?_); rintro e w' ⟨rfl, ⟨nd2, rfl⟩⟩) | ((with_reducible refine gate_dst (N := 6) rfl ?_); refine box_event ?hg (N := 6) ?hd (cs := ZC) (t := 55) ?hr ?_; (case hd => rfl); (case hg => rfl); (case hr => first | (go_simp; done) | (go_simp; rfl)); intro gb hg w2 hbox hb; have n0_ := Aside0.mk (below_step (by repeat (first | exact HB.out | apply pw_below_drewN)) hb); have BK := Aside0.mk hbox; have GE := Aside0.mk (show w.heap.size ≤ gb by rw [hg]; exact below_size (by repeat (first | exact HB.out | apply pw_below_drewN))); clear HB hb hbox hg; have HB := n0_; clear n0_) | ((with_reducible refine gate_store (t := 55) (p := 6) rfl ?_); refine ks_store rfl _ _ _ rfl rfl gb ZC rfl rfl 55 BK.out (by rw [hzl.out]; exact ks_info) hza.out ?_))
      clear hzv
      have HZB := Aside0.mk (show w2.heap[gb]? = some (.cells (bools (List.replicate 1001 false)).toArray 55 (0, 0)) by rw [← HZ.out]; exact BK.out)
      clear BK HZ hzl hza
      go_loopg [7] a1.toNat (fun gq v7 wr => ∃ (x : Int) (L : List Bool), v7 = .int .i64 x ∧ 1 ≤ x ∧ x + gq = a1 + 1 ∧ Aside0 (L.length = 1001) ∧ Aside0 (ksOut a0 x gq L = F) ∧ Aside0 (wr.heap[gb]? = some (.cells (bools L).toArray 55 (0, 0))) ∧ Aside0 (Below w.heap.size w wr))
      case atStart => exact ⟨1, List.replicate 1001 false, rfl, by omega, by omega, ⟨by simp⟩, HF, HZB, HB⟩
      case round =>
        clear HB HF HZB
        obtain ⟨x, L, rfl, hx1, hxg, HL, HA, BK, HB⟩ := hrel
        cases gk with
        | zero =>
          have hlt : decide (x ≤ a1) = false := decide_eq_false (by omega)
          have hF := HA.out
          simp only [ksOut] at hF
          subst hF
          have HRS := Aside0.mk (show ([] : List Int) ++ ksSel ((0 : Nat) : Int) (L.drop 0) = r1 from HR.out)
          have HR_ := HR
          clear HA HR
          go_wp2_with (first | ((with_reducible refine gate_dst (N := 43) rfl ?_); refine Kd.R_lit (Kd.int .i64) _ 3 ?hg (N := 43) ?hd (xs := ([] : List Int)) (inner := []) (ok := fun _ => True) (okp := fun _ => True) ?hr ?hp (fun _ hk => hk) trivial (Below.refl _ _) (Nat.le_refl _) (by simp) ?_; (case hd => rfl); (case hg => rfl); (case hr => first | (go_simp; done) | (go_simp; rfl)); (case hp => exact (Reps.none _ _)); intro v43 w4 ho hb hg_ hnew_; clear hg_ hnew_; have n0_ := Aside0.mk (below_step HB.out hb); have n1_ := Aside0.mk (blk_below BK.out hb); have HO := Aside0.mk (Kd.R_lower ho (below_size HB.out)); clear HB BK hb ho; have HB := n0_; have BK := n1_; clear n0_ n1_) | ((with_reducible refine gate_dst (N := 44) rfl ?_); refine wpList_load_row rfl _ _ rfl gb rfl 55 (bools L).toArray (0, 0) _ BK.out Try.underlying55 rfl (by rw [ks_info]; simp [bools, HL.out]) ?_))
          have HIX := Aside0.mk (fun (i : Nat) (hi : i < 1001) (w : World) => ks_index L HL.out i hi w)
          generalize (bools L).toArray = CA at HIX
          clear BK HR_
          go_loopg [11, 45] 1001 (fun gq v11 v45 wr => ∃ (i : Nat) (out : List Int), v45 = .int .i64 i ∧ i + gq = 1001 ∧ Aside0 (out.length ≤ i) ∧ Aside0 (out ++ ksSel i (L.drop i) = r1) ∧ Aside0 (Kd.R (Kd.int .i64) 3 wr w.heap.size (fun _ => True) v11 out) ∧ Aside0 (Below w.heap.size w wr))
          case atStart => exact ⟨0, [], rfl, by omega, ⟨by simp⟩, HRS, HO, HB⟩
          case round =>
            clear HO HB HRS
            obtain ⟨i, out, rfl, hig, HLo, HA, HO, HB⟩ := hrel
            obtain ⟨Ao, co, eo⟩ := Kd.R_slice HO.out
            subst eo
            cases gk with
            | zero =>
              have hlt2 : decide ((i : Int) < 1001) = false := decide_eq_false (by omega)
              have hr := HA.out
              rw [List.drop_eq_nil_of_le (by have := HL.out; omega)] at hr
              simp only [ksSel, List.append_nil] at hr
              subst hr
              clear HA hig
              go_wp2
              go_ret2
              exact ⟨_, rfl, HO.out, HB.out⟩
            | succ g1 =>
              have hlt2 : decide ((i : Int) < 1001) = true := decide_eq_true (by omega)
              have hi : i < 1001 := by omega
              have hix := HIX.out i hi
              have hA := HA.out
              rw [List.drop_eq_getElem_cons (by have := HL.out; omega)] at hA
              simp only [ksSel] at hA
              have hgd : L.getD i false = L[i]'(by have := HL.out; omega) := by
                have := HL.out
                simp [List.getD_eq_getElem?_getD, List.getElem?_eq_getElem (show i < L.length by omega)]
              rw [← hgd] at hA
              generalize L.getD i false = b at hix hA
              have HA1 := Aside0.mk hA
              clear HA hA hgd
              cases b with
              | false =>
                replace HA1 := Aside0.mk (show out ++ ksSel ((i + 1 : Nat) : Int) (L.drop (i + 1)) = r1 from HA1.out)
                go_wp2
                go_roundg g1
                case measure => omega
                case rel => exact ⟨i + 1, out, by first | rfl | go_num, by omega, ⟨by have := HLo.out; omega⟩, HA1, HO, HB⟩
              | true =>
                obtain ⟨z, hz⟩ : ∃ z, z = out ++ [(i : Int)] := ⟨_, rfl⟩
                replace HA1 := Aside0.mk (show z ++ ksSel ((i + 1 : Nat) : Int) (L.drop (i + 1)) = r1 by rw [hz, List.append_assoc]; exact HA1.out)
                have Nz := Aside0.mk hz
                have HL2 := Aside0.mk (show z.length ≤ i + 1 by rw [hz]; simp; exact HLo.out)
                clear hz
                go_wp2_with ((with_reducible refine gate_builtin (b := .append) (xs := #[.tmp 50, .tmp 52]) rfl ?_); at_builtin; refine Kd.R_append (Kd.int .i64) (w0 := w) w.heap.size rfl (.tmp 50) (.tmp 52) 44 3 (.int .i64 0) 8 rfl Try.underlying44 info3 rfl (by decide) (by omega) (.slice Ao out.length co) out (i : Int) [.int .i64 i] (fun _ => True) (fun _ => False) rfl rfl ?aP (fun _ hk => hk.elim) ?aF ?aO ?aB ?aS ?aL ?_; (case aP => exact rfl); (case aB => exact HB.out); (case aF => exact (fun _ _ => trivial)); (case aO => exact HO.out); (case aS => exact below_size HB.out); (case aL => have := HLo.out; omega); intro v53 w6 ho hb hg hat; rw [← Nz.out] at ho; have n3_ := Aside0.mk hb; have n4_ := Aside0.mk ho; clear HB HO ho hb hg hat; have HB := n3_; have HO := n4_; clear n3_ n4_)
                go_roundg g1
                case measure => omega
                case rel => exact ⟨i + 1, z, by first | rfl | go_num, by omega, HL2, HA1, HO, HB⟩
        | succ g1 =>
          have hlt : decide (x ≤ a1) = true := decide_eq_true (by omega)
          have hx2 : x ≤ 200 := by omega
          have hA := HA.out
          simp only [ksOut] at hA
          have HA1 := Aside0.mk hA
          clear HA hA
          go_wp2
          go_loopg [8] x.toNat (fun gq v8 wr => ∃ (y : Int) (L1 : List Bool), v8 = .int .i64 y ∧ 1 ≤ y ∧ y + gq = x + 1 ∧ Aside0 (L1.length = 1001) ∧ Aside0 (ksOut a0 (x + 1) g1 (ksIn a0 x y gq L1) = F) ∧ Aside0 (wr.heap[gb]? = some (.cells (bools L1).toArray 55 (0, 0))) ∧ Aside0 (Below w.heap.size w wr))
          case atStart => exact ⟨1, L, rfl, by omega, by omega, HL, HA1, BK, HB⟩
          case round =>
            clear HB HA1 BK HL
            obtain ⟨y, L1, rfl, hy1, hyg, HL, HA, BK, HB⟩ := hrel
            cases gk with
            | zero =>
              have hlt2 : decide (y ≤ x) = false := decide_eq_false (by omega)
              have HA2 := Aside0.mk (show ksOut a0 (x + 1) g1 L1 = F from HA.out)
              clear HA
              go_wp2
              go_roundg g1
              case measure => omega
              case rel => exact ⟨x + 1, L1, by first | rfl | go_num, by omega, by omega, HL, HA2, BK, HB⟩
            | succ g2 =>
              have hlt2 : decide (y ≤ x) = true := decide_eq_true (by omega)
              have hA := HA.out
              simp only [ksIn] at hA
              have HA2 := Aside0.mk hA
              clear HA hA
              obtain ⟨k, b, hk, hkb⟩ := kOf_some x y a0 hx1 hx2 hy1 (by omega)
              have HK := Aside0.mk hk
              have hst : ksStep a0 x y L1 = if b = true then L1.set k.toNat true else L1 := by
                unfold ksStep
                rw [hk]
                cases b <;> rfl
              rw [hst] at HA2
              have hy2 : y ≤ 200 := by omega
              clear hk hst
              cases b with
              | false =>
                replace HA2 := Aside0.mk (show ksOut a0 (x + 1) g1 (ksIn a0 x (y + 1) g2 L1) = F from HA2.out)
                clear hkb
                go_wp2_with (go_at_call 58; (with_reducible refine (impl_kOf.calls x y a0 k false _ HK.out).mono ?_); rintro e w' ⟨rfl, ⟨nd, rfl⟩⟩)
                go_roundg g2
                case measure => omega
                case rel => exact ⟨y + 1, L1, by first | rfl | go_num, by omega, by omega, HL, HA2, ⟨blk_drewN BK.out _⟩, ⟨pw_below_drewN HB.out _⟩⟩
              | true =>
                obtain ⟨hk0, hk1⟩ := hkb rfl
                replace HA2 := Aside0.mk (show ksOut a0 (x + 1) g1 (ksIn a0 x (y + 1) g2 (L1.set k.toNat true)) = F from HA2.out)
                have HL2 := Aside0.mk (show (L1.set k.toNat true).length = 1001 by rw [List.length_set]; exact HL.out)
                have hk2 : (0 ≤ k) = True := eq_true (by omega)
                have hk3 : (k < 1001) = True := eq_true (by omega)
                have hc0 : wr.cell? ⟨gb, k.toNat, none⟩ = some (.bool (L1.getD k.toNat false)) := by
                  rw [blk_cell BK.out]
                  have := HL.out
                  simp [bools, List.getD_eq_getElem?_getD, List.getElem?_eq_getElem (show k.toNat < L1.length by omega)]
                have hf0 := blk_frozen BK.out k.toNat
                go_wp2_with (go_at_call 58; (with_reducible refine (impl_kOf.calls x y a0 k true _ HK.out).mono ?_); rintro e w' ⟨rfl, ⟨nd, rfl⟩⟩)
                go_roundg g2
                case measure => omega
                case rel => exact ⟨y + 1, L1.set k.toNat true, by first | rfl | go_num, by omega, by omega, HL2, HA2, ⟨by rw [← ks_set]; exact blk_drewN (blk_set BK.out _ _) _⟩, ⟨pw_below_drewN (below_set HB.out GE.out) _⟩⟩

end Go.Proofs.Ytgigkjcfnngdmaa.P
