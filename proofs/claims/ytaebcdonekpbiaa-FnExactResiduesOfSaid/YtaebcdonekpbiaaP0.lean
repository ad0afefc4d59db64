/- Written by a program of this session: for Go functions that a statement reaches, Lean functions with the same answers and the proofs that the calls come to them; conditions: none but the arguments' kinds. -/
import Derived.Test.YtaebcdonekpbiaaProg
import Derived.Below
import Derived.Deep.Draws
import Derived.Deep.AppendLies
import Derived.Maps.AppendAt
import Derived.OwnWalk
import Derived.Laws.BytesArg
import Derived.Laws.MakeOwn
import Derived.Laws.OwnMore
import Derived.Deep.OwnRows
import Derived.Tactics
import Derived.Lib.ConvBytes
import Derived.Laws.Slices
import Derived.WalkKit
import Derived.KernelRfl
import Derived.RowKit3
import Derived.Deep.LoopGhost
import Derived.Deep.QuietTactic
import Derived.BigQuiet
import Derived.WideLaws
import Derived.Deep.DeepCutAuto
import Derived.Deep.CutBlock
import Derived.Deep.RegionHeld3
import Derived.Laws.Rows
import Derived.Lib.AppendStr
import Derived.ArgAppend
import Derived.Laws.IdiomCopy
import Derived.OrdersHeld
import Derived.Laws.BitsLemmas
import Derived.RowKit
import Derived.ChangeKeysEq
import Derived.ChangeMaps5
import Derived.DeepKeys
import Derived.Laws.StructEq
import Derived.Lib.SliceRun
import Derived.MapKept
import Derived.Shelf.Abstract
import Derived.Test.YtaebcdonekpbiaaWArr
import Derived.Test.YtaebcdonekpbiaaWWords
import Derived.Test.YtaebcdonekpbiaaWLast
import Derived.Test.YtaebcdonekpbiaaWTab
import Derived.Test.YtaebcdonekpbiaaWFour
import Derived.Test.YtaebcdonekpbiaaWQPut
import Derived.Test.YtaebcdonekpbiaaWApart
import Derived.Test.YtaebcdonekpbiaaWArr
import Derived.Test.YtaebcdonekpbiaaWZeros
import Derived.Test.YtaebcdonekpbiaaWFoot
import Derived.Test.YtaebcdonekpbiaaWKept
import Derived.Test.YtaebcdonekpbiaaWShare
import Derived.Test.YtaebcdonekpbiaaWN
import Derived.Test.YtaebcdonekpbiaaWFootNe
import Derived.Test.YtaebcdonekpbiaaWAt
import Derived.Test.YtaebcdonekpbiaaWEqStruct
import Derived.Test.YtaebcdonekpbiaaWRepsOne
import Derived.Test.YtaebcdonekpbiaaWInv
import Derived.Test.YtaebcdonekpbiaaWInvWords
import Derived.Test.YtaebcdonekpbiaaWGuard
import Derived.Test.YtaebcdonekpbiaaWNEv
import Derived.Test.YtaebcdonekpbiaaWMore
namespace Go.Proofs.Ytaebcdonekpbiaa.P
open Go.RowKit Go.Proofs.YtaebcdonekpbiaaW.PrintWords Go.Proofs.YtaebcdonekpbiaaW.PrintLast Go.Proofs.YtaebcdonekpbiaaW.PrintMore
attribute [local go_sem] max2_int min2_int max_two min_two max_three min_three max_four min_four   -- for this text's walks alone
set_option linter.unusedVariables false
set_option linter.unusedSimpArgs false



def errW : Option Int → Value
  | none => .nilIface
  | some c => .iface 0 (.int .i64 c)
theorem errW_none : errW none = .nilIface := rfl
theorem errW_some (c : Int) : errW (some c) = .iface 0 (.int .i64 c) := rfl

theorem info3 : (Try.prog.info? 3).map (fun i => (i.zero, i.size, i.bytes)) = some (some (.int .i64 0), 1, 8) := by kernel_rfl
theorem info4 : (Try.prog.info? 4).map (fun i => (i.zero, i.size, i.bytes)) = some (some (.bool false), 1, 1) := by kernel_rfl
theorem info22 : (Try.prog.info? 22).map (fun i => (i.zero, i.size, i.bytes)) = some (some (.slice none 0 0), 1, 24) := by kernel_rfl
-- the values' own types
def rd_L1 (xs : List (List Int)) (i : Int) : (List Int) := xs.getD i.toNat ([] : List Int)
theorem at_L1 {w : World} {A : Option Addr} {n : Nat} {xs : List (List Int)} (h : Kd.C (Kd.slice 3 (Kd.int .i64)) w A n xs) (i : Int) (h0 : 0 ≤ i) (h1 : i < n) : ∃ ad A0 c0, A = some ad ∧ w.cell? (ad.add i.toNat) = some (.slice A0 (rd_L1 xs i).length c0) ∧ (rd_L1 xs i).length ≤ c0 ∧ (Kd.int .i64).C w A0 (rd_L1 xs i).length (rd_L1 xs i) := by
  obtain ⟨ad, c, e, _, hK, hc0⟩ := Kd.C_get h ([] : List Int) i h0 h1
  have hc : ∀ j u, c[j]? = some u → w.cell? (ad.add (i.toNat * 1 + j)) = some u := hc0
  obtain ⟨A0, c0, rfl, l0, g0⟩ := hK
  exact ⟨ad, A0, c0, e, by have hq := hc 0 _ rfl; rwa [Nat.mul_one, Nat.add_zero] at hq, l0, g0⟩

section
variable {P : Program} {ops : Array Oper} {rest : List Oper} {o : Oper} {a : Act} {Q : Exit → Act → World → Prop} {α : Type}
/-- A literal of one element that leads to rows: told as an append to nil is. -/
theorem S_lit1 (d : Kd α) {w0 W : World} (base e bytes : Nat) (hgd : o.guard = none) {N : Tmp} (hd : o.dst = some N) (p : α) (cs : List Value) (ok okp : Nat → Prop)
    (hrun : (execOp a.eval o).run P W = .ok (.value (.slice (some ⟨W.heap.size, 0, none⟩) 1 1)) (W.alloc (.cells cs.toArray e)))
    (hp : d.M W base okp p cs) (hokp : ∀ k, okp k → ok k ∧ some k ≠ (Value.slice none 0 0).ownBlock) (hfresh : ∀ k, W.heap.size ≤ k → ok k)
    (_HO : Kd.S d e W base (fun k => ok k ∧ ¬ okp k) (.slice none 0 0) []) (HB : Below base w0 W) (hbase : base ≤ W.heap.size) (_hl : (([] : List α).length + 1) * bytes ≤ 140737488355328)
    (h : ∀ v1 w1, Kd.S d e w1 base ok v1 ([] ++ [p]) → Below base w0 w1 → W.grownBy w1 (Value.slice none 0 0).ownBlock → (v1.ownBlock = (Value.slice none 0 0).ownBlock ∨ ∃ b, v1.ownBlock = some b ∧ W.heap.size ≤ b) → wpList P ops Q rest (a.put o.dst v1) w1) : wpList P ops Q (o :: rest) a W := by
  have hcl : cs.length = d.sz := d.K_len (d.K_of_M hp)
  refine Kd.S_lits d (w0 := w0) base e hgd hd (xs := [p]) (inner := cs) (ok := ok) (fun j k => j = 0 ∧ okp k) hrun (by simp [hcl]) (fun j x hj => ?_) (fun i j k h1 h2 => h1.1.trans h2.1.symm) (fun j k hk => (hokp k hk.2).1) (hfresh _ (Nat.le_refl _)) HB hbase (by simp) (fun v1 w1 hS hb hg hat => h v1 w1 hS hb hg (.inr hat))
  cases j with
  | zero =>
    simp only [List.getElem?_cons_zero, Option.some.injEq] at hj
    subst hj
    simp only [Nat.zero_mul, List.drop_zero]
    rw [List.take_of_length_le (by omega)]
    exact d.M_mono (fun k hk => ⟨by trivial, hk⟩) hp
  | succ j => simp at hj
end
theorem sA_ {α : Type} (l : List α) (i : Nat) (a : α) : l.toArray.setIfInBounds i a = (l.set i a).toArray := List.setIfInBounds_toArray ..
theorem sB_ {α : Type} (l : List α) (a b : α) : (a :: l).set 0 b = b :: l := rfl
theorem sC_ {α : Type} (l : List α) (a b : α) (n : Nat) : (a :: l).set (n + 1) b = a :: l.set n b := rfl
@[simp] theorem tdiv_nn_ {a b : Int} (h : 0 ≤ a) : Int.tdiv a b = a / b := Int.tdiv_eq_ediv_of_nonneg h
/-- A load that alone may come up now: its cell is read in the world as it is (the row may have come of a call in this region). -/
theorem now_ {P : Program} {md : Region.Mode} {ops : Array Oper} {Q : Exit → Act → World → Prop} {S : World → Prop} {ds : List Nat} {i : Nat} {N : Option Tmp} {oi : Oper} {v : Value} {fuel : Nat} {l : Array Bool} {a : Act} {w : World} (l' : Array Bool) (hi : ops[i]? = some oi) (hN : oi.dst = N) (hc : readyB md ops l l' i = true)
    (hy : YieldsIf P ops (fun w' => w' = w) oi v a) {a' : Act} (ha : a.put N v = a') (h : wpAnyLast P md ops Q S ds fuel l' a' w) : wpAnyLast P md ops Q S ds (fuel + 1) l a w := by
  subst ha
  subst hN
  simp only [readyB, Bool.and_eq_true, beq_iff_eq] at hc
  obtain ⟨h1, h2⟩ := hc
  subst h2
  refine wpAnyLast_all h1 (by simp) ?_
  intro j hj
  rw [List.mem_singleton.1 hj]
  exact YieldsIf.wpOp hi hy rfl ⟨fun _ h => h, h⟩
section
variable {P : Program} {ops : Array Oper} {rest : List Oper} {o : Oper} {a : Act} {Q : Exit → Act → World → Prop} {α : Type}
open Classical in
/-- append(v, ys...), both leading to rows: ys' blocks (okq) are none of v's. -/
theorem S_append_rows (d : Kd α) {w0 W : World} (base : Nat) (hgd : o.guard = none) (s x : Operand) (t e : TypeId) (z : Value) (bytes : Nat)
    (ho : o.op = .call { callee := .builtin .append, args := #[s, x], argTypes := #[t, t] })
    (ht : P.underlying t = some (.slice e)) (hinfo : (P.info? e).map (fun i => (i.zero, i.size, i.bytes)) = some (some z, d.sz, bytes)) (hz : z.cells.size = d.sz) (hs0 : 0 < d.sz) (hb0 : 0 < bytes)
    (v : Value) (xs ys : List α) (A : Option Addr) (c : Nat) (ok okq : Nat → Prop) (hs : a.eval s = v) (hx : a.eval x = .slice A ys.length c)
    (HO : Kd.S d e W base (fun k => ok k ∧ ¬ okq k) v xs) (HY : Kd.S d e W base okq (.slice A ys.length c) ys) (hokq : ∀ k, okq k → ok k ∧ some k ≠ v.ownBlock) (hfresh : ∀ k, W.heap.size ≤ k → ok k)
    (HB : Below base w0 W) (hbase : base ≤ W.heap.size) (hl : (xs.length + ys.length) * bytes ≤ 140737488355328)
    (h : ∀ v1 w1, Kd.S d e w1 base ok v1 (xs ++ ys) → Below base w0 w1 → W.grownBy w1 v.ownBlock → (v1.ownBlock = v.ownBlock ∨ ∃ b, v1.ownBlock = some b ∧ W.heap.size ≤ b) → wpList P ops Q rest (a.put o.dst v1) w1) :
    wpList P ops Q (o :: rest) a W := by
  obtain ⟨f1, h1⟩ := HO
  obtain ⟨f2, h2⟩ := HY
  obtain ⟨g, hg⟩ : ∃ g : Nat → Nat, ∀ k, g k = if okq k then xs.length + f2 k else f1 k := ⟨_, fun _ => rfl⟩
  have hR : (Kd.tag g d).R e W base ok v xs.zipIdx := Kd.R_mono (Kd.R_tag h1 (fun k hk _ => by rw [hg, if_neg hk.2])) (fun _ hk => hk.1)
  obtain ⟨hk0, inner, ho2, hr2⟩ := h2
  have hr3 : Reps ((Kd.tag g d).M W base okq) d.sz (ys.zipIdx xs.length) inner := by
    refine ⟨by have h_ := hr2.1; rw [List.length_zipIdx] at h_ ⊢; exact h_, fun j p hj => ?_⟩
    rw [List.getElem?_zipIdx] at hj
    obtain ⟨q, hq, rfl⟩ := Option.map_eq_some_iff.1 hj
    exact d.M_mono (fun k hk => ⟨hk.1.1, by rw [hg, if_pos hk.1.1, hk.2]⟩) (hr2.2 j (q, j) (Kd.zip_at hq))
  obtain ⟨A', c', e', hread⟩ := own_reads_row ho2 hr3 (by simp)
  rw [List.length_zipIdx] at e' hread
  injection e' with e1 e2 e3
  subst e1
  refine Kd.R_append_rows (Kd.tag g d) base hgd s x t e z bytes ho ht hinfo hz hs0 hb0 v xs.zipIdx (ys.zipIdx xs.length) A ys.length c ok okq hs hx hR hread (fun _ _ hk => hk) hokq hfresh HB hbase (by rw [List.length_zipIdx]; exact hl) ?_
  intro v1 w1 hr
  refine h v1 w1 ⟨g, ?_⟩
  rw [List.zipIdx_append, Nat.zero_add]
  exact hr
end

end Go.Proofs.Ytaebcdonekpbiaa.P
