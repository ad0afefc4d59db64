import Derived.Test.YtbcanhikldbhbaaDoorP1
import Derived.Test.YtbcanhikldbhbaaDoorP2
import Derived.Test.YtbcanhikldbhbaaDoorP3
import Derived.Test.YtbcanhikldbhbaaDoorP4
import Derived.Test.YtbcanhikldbhbaaDoorP5
import Derived.Test.YtbcanhikldbhbaaDoorP6
import Derived.Test.YtbcanhikldbhbaaDoorP7
import Derived.Test.YtbcanhikldbhbaaDoorP8
import Derived.Test.YtbcanhikldbhbaaDoorP9
import Derived.Lib.AtoiAllCases
import Derived.Lib.IndexBytes
namespace Go.Proofs.YtbcanhikldbhbaaDoor.P
open Go.RowKit Go.Proofs.YtbcanhikldbhbaaDoorW.PrintWords Go.Proofs.YtbcanhikldbhbaaDoorW.PrintLast Go.Proofs.YtbcanhikldbhbaaDoorW.PrintMore
theorem wrap_id {x : Int} (h0 : -9223372036854775808 ≤ x) (h1 : x ≤ 9223372036854775807) : wrap64 x = x := by unfold wrap64; omega
theorem rdi_at {l : List Int} {i : Nat} (h : i < l.length) : rd l (i : Int) = l[i] := by simp [rd, List.getD_eq_getElem?_getD, List.getElem?_eq_getElem h]
theorem l1In_f (x lo hi : Int) : spec_l1In.f x lo hi = some (inB lo hi x) := by
  unfold spec_l1In.f inB
  by_cases h : x ≥ lo
  · rw [if_pos h]; simp [show lo ≤ x from h]
  · rw [if_neg h]; simp [show ¬ lo ≤ x from h]
theorem inB_iff {lo hi x : Int} : inB lo hi x = true ↔ lo ≤ x ∧ x ≤ hi := by simp [inB]
theorem Ev.all {α : Type} {f : Option α} {r : α} (h : f = some r) : Ev (fun _ => f) r := ⟨0, fun _ _ => h⟩
theorem Ev.from {α : Type} {g : Nat → Option α} {r : α} (K : Nat) (h : ∀ k, K < k → g k = some r) : Ev g r := ⟨K + 1, fun k hk => h k (by omega)⟩
theorem l1All_l (lo hi : Int) (l : List Int) (hl : (l.length : Int) ≤ 9223372036854775806) (d : Nat) : ∀ (i k : Nat), i + d = l.length → d < k → spec_l1All.l0 k lo hi l (l.length : Int) (i : Int) = some ((l.drop i).all (inB lo hi)) := by
  induction d with
  | zero =>
    intro i k hi' hk
    obtain ⟨k, rfl⟩ : ∃ m, k = m + 1 := ⟨k - 1, by omega⟩
    simp only [spec_l1All.l0]
    rw [if_neg (by omega), List.drop_of_length_le (by omega)]
    rfl
  | succ d ih =>
    intro i k hi' hk
    obtain ⟨k, rfl⟩ : ∃ m, k = m + 1 := ⟨k - 1, by omega⟩
    have hil : i < l.length := by omega
    simp only [spec_l1All.l0]
    rw [if_pos (by omega), if_pos (by omega), if_pos (by omega), l1In_f, rdi_at hil, wrap_id (by omega) (by omega)]
    simp only [Option.bind_some]
    rw [List.drop_eq_getElem_cons hil, List.all_cons]
    cases inB lo hi l[i] with
    | false => simp
    | true =>
      simp only [if_true, Bool.true_and]
      exact ih (i + 1) k (by omega) (by omega)
theorem l1All_ev (lo hi : Int) (l : List Int) (hl : (l.length : Int) ≤ 9223372036854775806) : Ev (fun k => spec_l1All.f k l lo hi) (l.all (inB lo hi)) :=
  Ev.from l.length (fun k hk => by
    have := l1All_l lo hi l hl l.length 0 k (by omega) hk
    simpa [spec_l1All.f] using this)

def bd (x : Int) : Prop := -1000000 ≤ x ∧ x ≤ 1000000
def isc (a b c d : Int) : Bool := ([a, b, c, d] : List Int).all (inB (-1000000) 1000000) && ((wrap64 ((wrap64 ((wrap64 (c * c)) + (wrap64 (d * d)))) - (wrap64 (a * b)))) == 1)
theorem isc_b {a b c d : Int} (h : isc a b c d = true) : bd a ∧ bd b ∧ bd c ∧ bd d := by
  unfold isc at h
  unfold bd
  simp only [List.all_cons, List.all_nil, Bool.and_true, Bool.and_eq_true, inB_iff] at h
  exact ⟨h.1.1, h.1.2.1, h.1.2.2.1, h.1.2.2.2⟩
theorem good_ev (a b c d : Int) : Ev (fun k => spec_ciGood.f k a b c d) (isc a b c d) := by
  have h := l1All_ev (-1000000) 1000000 [a, b, c, d] (by simp)
  unfold spec_ciGood.f
  refine Ev.bind h ?_
  unfold isc
  cases ([a, b, c, d] : List Int).all (inB (-1000000) 1000000) with
  | true => simp only [if_true]; exact Ev.now _
  | false => simp only [Bool.false_eq_true, if_false]; exact Ev.now _
theorem isCircle_f (a b c d : Int) : impl_IsCircle.f a b c d = some (isc a b c d) := by
  unfold impl_IsCircle.f impl_Circle_numbers.f impl_allWithin.f isc
  simp only [Option.bind_some]
  cases ([a, b, c, d] : List Int).all (inB (-1000000) 1000000) with
  | true => simp only [if_true, Bool.true_and]
  | false => simp only [Bool.false_eq_true, if_false, Bool.false_and]
def tx (n : Int) : ByteArray := ⟨(Lib.itoa n).toArray⟩
theorem mk_app (l m : List UInt8) : (⟨l.toArray⟩ : ByteArray) ++ ⟨m.toArray⟩ = ⟨(l ++ m).toArray⟩ := by
  apply ByteArray.ext
  rw [ByteArray.data_append]
  simp
theorem mk_size (l : List UInt8) : (⟨l.toArray⟩ : ByteArray).size = l.length := by simp [ByteArray.size]
theorem dec_small {u : Nat} (h : u < 10) : Lib.decDigits u = [UInt8.ofNat (48 + u)] := by rw [Lib.decDigits, dif_pos h]
theorem dec_big {u : Nat} (h : ¬ u < 10) : Lib.decDigits u = Lib.decDigits (u / 10) ++ [UInt8.ofNat (48 + u % 10)] := by rw [Lib.decDigits, dif_neg h]
theorem dec_len (u : Nat) : (Lib.decDigits u).length ≤ u + 1 := by
  induction u using Nat.strongRecOn with
  | _ u ih =>
    by_cases h : u < 10
    · rw [dec_small h]; simp
    · rw [dec_big h]
      have := ih (u / 10) (by omega)
      simp only [List.length_append, List.length_cons, List.length_nil]
      omega
theorem one_digit (d : Int) (h0 : 0 ≤ d) (h1 : d < 10) : strOfNums (([(wrap64 (48 + d)) % 256] : List Int)) = ⟨([UInt8.ofNat (48 + d.toNat)] : List UInt8).toArray⟩ := by
  rw [wrap_id (by omega) (by omega)]
  unfold strOfNums
  simp only [List.map_cons, List.map_nil]
  rw [show ((48 + d) % 256).toNat = 48 + d.toNat by omega]
theorem l1Num_ev : ∀ (u : Nat), u ≤ 100000000 → Ev (fun k => spec_l1Num.f k (u : Int)) ⟨(Lib.decDigits u).toArray⟩ := by
  intro u
  induction u using Nat.strongRecOn with
  | _ u ih =>
    intro hu
    refine Ev.step (fun _ => spec_l1Num.f.eq_2 _ _) ?_
    by_cases h : u < 10
    · simp only [if_pos (show (u : Int) < 10 by omega)]
      rw [dec_small h, one_digit u (by omega) (by omega), Int.toNat_natCast]
      exact Ev.now _
    · simp only [if_neg (show ¬ (u : Int) < 10 by omega)]
      have e1 : wrap64 (Int.tdiv (u : Int) 10) = ((u / 10 : Nat) : Int) := by
        rw [Int.tdiv_eq_ediv_of_nonneg (by omega)]
        rw [wrap_id] <;> omega
      have e2 : Int.tmod (u : Int) 10 = ((u % 10 : Nat) : Int) := by
        rw [Int.tmod_eq_emod_of_nonneg (by omega)]
        omega
      rw [e1, e2]
      refine Ev.bind (ih (u / 10) (by omega) (by omega)) ?_
      simp only [Option.bind_some]
      rw [one_digit _ (by omega) (by omega), mk_size, mk_size, Int.toNat_natCast]
      have := dec_len (u / 10)
      rw [if_pos (by simp only [List.length_cons, List.length_nil]; omega), mk_app, ← dec_big h]
      exact Ev.now _
theorem tx_size {n : Int} (h : bd n) : (tx n).size ≤ 1000002 := by
  unfold tx Lib.itoa
  rw [mk_size]
  have h1 := dec_len n.natAbs
  have h2 := dec_len n.toNat
  unfold bd at h
  split
  · simp only [List.length_cons]; omega
  · omega
theorem ciNumber_ev (n : Int) (h : bd n) : Ev (fun k => spec_ciNumber.f k n) (tx n) := by
  unfold bd at h
  unfold spec_ciNumber.f tx Lib.itoa
  by_cases hn : n < 0
  · simp only [if_pos hn]
    have e1 : wrap64 (-n) = ((n.natAbs : Nat) : Int) := by rw [wrap_id] <;> omega
    rw [e1]
    refine Ev.bind (l1Num_ev n.natAbs (by omega)) ?_
    have := dec_len n.natAbs
    rw [mk_size, if_pos (by omega)]
    rw [show (⟨#[45]⟩ : ByteArray) = ⟨([45] : List UInt8).toArray⟩ from rfl, mk_app]
    exact Ev.now _
  · simp only [if_neg hn]
    have e1 : n = ((n.toNat : Nat) : Int) := by omega
    have := l1Num_ev n.toNat (by omega)
    rw [← e1] at this
    exact Ev.bind this (Ev.now _)
def ctx (a b c d : Int) : ByteArray := ((((((tx a ++ (⟨#[32]⟩ : ByteArray)) ++ tx b) ++ (⟨#[32]⟩ : ByteArray)) ++ tx c) ++ (⟨#[32]⟩ : ByteArray)) ++ tx d)
theorem sp_size : (⟨#[32]⟩ : ByteArray).size = 1 := rfl
theorem Ev.iff {α : Type} {c : Prop} [Decidable c] {f : Nat → Option α} {g : Nat → Option α} {r : α} (h : c) (hf : Ev f r) : Ev (fun k => if c then f k else g k) r := by
  simp only [if_pos h]
  exact hf
theorem ciText_ev {a b c d : Int} (ha : bd a) (hb : bd b) (hc : bd c) (hd : bd d) : Ev (fun k => spec_ciText.f k a b c d) (ctx a b c d) := by
  have sa := tx_size ha; have sb := tx_size hb; have sc := tx_size hc; have sd := tx_size hd
  unfold spec_ciText.f
  refine Ev.bind (ciNumber_ev a ha) (Ev.iff (by omega) ?_)
  refine Ev.bind (ciNumber_ev b hb) (Ev.iff (by simp only [ByteArray.size_append, sp_size]; omega) (Ev.iff (by simp only [ByteArray.size_append, sp_size]; omega) ?_))
  refine Ev.bind (ciNumber_ev c hc) (Ev.iff (by simp only [ByteArray.size_append, sp_size]; omega) (Ev.iff (by simp only [ByteArray.size_append, sp_size]; omega) ?_))
  refine Ev.bind (ciNumber_ev d hd) (Ev.iff (by simp only [ByteArray.size_append, sp_size]; omega) (Ev.now _))
theorem join_f {a b c d : Int} (ha : bd a) (hb : bd b) (hc : bd c) (hd : bd d) : strings_Join.f [tx a, tx b, tx c, tx d] ⟨#[32]⟩ = some (ctx a b c d) := by
  have sa := tx_size ha; have sb := tx_size hb; have sc := tx_size hc; have sd := tx_size hd
  have e : (⟨(Lib.join ([tx a, tx b, tx c, tx d].map (·.data.toList)) (⟨#[32]⟩ : ByteArray).data.toList).toArray⟩ : ByteArray) = ctx a b c d := by
    apply ByteArray.ext
    unfold ctx
    simp only [List.map_cons, List.map_nil, Lib.join_cons, Lib.joinTail, List.flatten_cons, List.flatten_nil, ByteArray.data_append]
    apply Array.ext'
    simp [List.append_assoc]
  have el : (Lib.join ([tx a, tx b, tx c, tx d].map (·.data.toList)) (⟨#[32]⟩ : ByteArray).data.toList).length = (ctx a b c d).size := by
    rw [← e, mk_size]
  unfold strings_Join.f
  rw [if_pos (by simp), if_pos (by rw [el]; unfold ctx; simp only [ByteArray.size_append, sp_size]; omega), e]
theorem itoa_f {n : Int} (h : bd n) : strconv_Itoa.f n = some (tx n) := by
  unfold bd at h
  unfold strconv_Itoa.f
  rw [if_pos (by omega), if_pos (by omega)]
  rfl
theorem words_ev {a b c d : Int} (ha : bd a) (hb : bd b) (hc : bd c) (hd : bd d) : Ev (fun k => impl_words.f k [a, b, c, d]) (ctx a b c d) := by
  refine Ev.from 5 ?_
  intro k hk
  obtain ⟨k, rfl⟩ : ∃ m, k = m + 5 := ⟨k - 5, by omega⟩
  have w1 : wrap64 (0 + 1) = 1 := wrap_id (by omega) (by omega)
  have w2 : wrap64 (1 + 1) = 2 := wrap_id (by omega) (by omega)
  have w3 : wrap64 (2 + 1) = 3 := wrap_id (by omega) (by omega)
  have w4 : wrap64 (3 + 1) = 4 := wrap_id (by omega) (by omega)
  have r0 : rd [a, b, c, d] 0 = a := rfl
  have r1 : rd [a, b, c, d] 1 = b := rfl
  have r2 : rd [a, b, c, d] 2 = c := rfl
  have r3 : rd [a, b, c, d] 3 = d := rfl
  unfold impl_words.f
  have hl : (([a, b, c, d] : List Int).length : Int) = 4 := rfl
  rw [hl]
  rw [impl_words.l0.eq_2, if_pos (by decide), if_pos (by decide), hl, if_pos (by decide), r0, itoa_f ha, Option.bind_some, if_pos (by decide), w1]
  rw [impl_words.l0.eq_2, if_pos (by decide), if_pos (by decide), hl, if_pos (by decide), r1, itoa_f hb, Option.bind_some, if_pos (by simp), w2]
  rw [impl_words.l0.eq_2, if_pos (by decide), if_pos (by decide), hl, if_pos (by decide), r2, itoa_f hc, Option.bind_some, if_pos (by simp), w3]
  rw [impl_words.l0.eq_2, if_pos (by decide), if_pos (by decide), hl, if_pos (by decide), r3, itoa_f hd, Option.bind_some, if_pos (by simp), w4]
  rw [impl_words.l0.eq_2, if_neg (by decide)]
  simp only [List.nil_append, List.cons_append]
  rw [join_f ha hb hc hd]
  rfl
def mk (l : List UInt8) : ByteArray := ⟨l.toArray⟩
theorem mk_of (s : ByteArray) : mk s.data.toList = s := Lib.mk_data s
theorem mk_to (l : List UInt8) : (mk l).data.toList = l := by simp [mk]
theorem digit_nat {d : Nat} (h : d < 10) : (UInt8.ofNat (48 + d)).toNat = 48 + d := by
  rw [UInt8.toNat_ofNat']
  omega
theorem dec_digits : ∀ (u : Nat), ∀ x ∈ Lib.decDigits u, 48 ≤ x.toNat ∧ x.toNat ≤ 57 := by
  intro u
  induction u using Nat.strongRecOn with
  | _ u ih =>
    intro x hx
    by_cases h : u < 10
    · rw [dec_small h, List.mem_singleton] at hx
      subst hx
      rw [digit_nat h]; omega
    · rw [dec_big h, List.mem_append, List.mem_singleton] at hx
      rcases hx with hx | rfl
      · exact ih (u / 10) (by omega) x hx
      · rw [digit_nat (by omega)]; omega
theorem itoa_ne (n : Int) : ∀ x ∈ Lib.itoa n, x ≠ 32 := by
  intro x hx e
  subst e
  unfold Lib.itoa at hx
  split at hx
  · rcases List.mem_cons.1 hx with hx | hx
    · exact absurd hx (by decide)
    · have := dec_digits _ _ hx
      exact absurd this.1 (by decide)
  · have := dec_digits _ _ hx
    exact absurd this.1 (by decide)
def pc (cur : List UInt8) : List UInt8 → List ByteArray
  | [] => [mk cur]
  | b :: r => if b = 32 then mk cur :: pc [] r else pc (cur ++ [b]) r
theorem pc_run : ∀ (l r cur : List UInt8), (∀ x ∈ l, x ≠ 32) → pc cur (l ++ 32 :: r) = mk (cur ++ l) :: pc [] r
  | [], r, cur, _ => by rw [List.nil_append, pc, if_pos rfl, List.append_nil]
  | b :: l, r, cur, h => by
    rw [List.cons_append, pc, if_neg (h b (by simp)), pc_run l r _ (fun x hx => h x (by simp [hx])), List.append_assoc]
    rfl
theorem pc_end : ∀ (l cur : List UInt8), (∀ x ∈ l, x ≠ 32) → pc cur l = [mk (cur ++ l)]
  | [], cur, _ => by rw [pc, List.append_nil]
  | b :: l, cur, h => by
    rw [pc, if_neg (h b (by simp)), pc_end l _ (fun x hx => h x (by simp [hx])), List.append_assoc]
    rfl
theorem ctx_data (a b c d : Int) : (ctx a b c d).data.toList = Lib.itoa a ++ 32 :: (Lib.itoa b ++ 32 :: (Lib.itoa c ++ 32 :: Lib.itoa d)) := by
  unfold ctx tx
  simp [ByteArray.data_append, List.append_assoc]
theorem pc_ctx (a b c d : Int) : pc [] (ctx a b c d).data.toList = [tx a, tx b, tx c, tx d] := by
  rw [ctx_data, pc_run _ _ _ (itoa_ne a), pc_run _ _ _ (itoa_ne b), pc_run _ _ _ (itoa_ne c), pc_end _ _ (itoa_ne d)]
  rfl
theorem bt_nat (s : ByteArray) (i : Nat) (h : i < s.data.toList.length) : bt s (i : Int) = ((s.data.toList[i]).toNat : Int) := by
  have h2 : ((i : Int)).toNat < s.size := by rw [Lib.size_eq]; omega
  unfold bt
  rw [dif_pos h2]
  rfl
theorem ext_mk (s : ByteArray) (a b : Nat) : s.extract a b = mk ((s.data.toList.drop a).take (b - a)) := by
  rw [← Lib.extract_data, mk_of]
theorem ext_end (s : ByteArray) (a : Nat) : s.extract a s.size = mk (s.data.toList.drop a) := by
  rw [← Lib.extract_to_end, mk_of]
theorem split_l (s : ByteArray) (hs : s.size ≤ 1048576) : ∀ (d i f k : Nat) (out : List ByteArray), i + d = s.size → f ≤ i → out.length ≤ i → d < k →
    spec_l1Split.l0 k s 32 out (f : Int) (i : Int) = some (out ++ pc ((s.data.toList.drop f).take (i - f)) (s.data.toList.drop i))
  | 0, i, f, k, out, hi, hf, ho, hk => by
    obtain ⟨k, rfl⟩ : ∃ m, k = m + 1 := ⟨k - 1, by omega⟩
    have hz := Lib.size_eq s
    rw [spec_l1Split.l0.eq_2, if_neg (by omega), if_pos (by omega), if_pos (by omega), if_pos (by omega), Int.toNat_natCast, ext_end]
    rw [List.drop_of_length_le (i := i) (by omega), pc, List.take_of_length_le (by rw [List.length_drop]; omega)]
  | d + 1, i, f, k, out, hi, hf, ho, hk => by
    obtain ⟨k, rfl⟩ : ∃ m, k = m + 1 := ⟨k - 1, by omega⟩
    have hz := Lib.size_eq s
    have hl : i < s.data.toList.length := by omega
    have ew : wrap64 ((i : Int) + 1) = ((i + 1 : Nat) : Int) := by rw [wrap_id] <;> omega
    rw [spec_l1Split.l0.eq_2, if_pos (by omega), if_pos (by omega), bt_nat s i hl, ew, Int.toNat_natCast, Int.toNat_natCast]
    rw [List.drop_eq_getElem_cons hl, pc]
    by_cases hb : s.data.toList[i] = 32
    · rw [if_pos (by rw [hb]; rfl), if_pos (by omega), if_pos (by omega), if_pos (by omega), if_pos (by omega), if_pos hb, ext_mk]
      rw [split_l s hs d (i + 1) (i + 1) k _ (by omega) (Nat.le_refl _) (by simp; omega) (by omega), List.append_assoc, Nat.sub_self, List.take_zero]
      rfl
    · rw [if_neg (by intro e; apply hb; apply UInt8.toNat.inj; have : ((s.data.toList[i]).toNat : Int) = 32 := e; show (s.data.toList[i]).toNat = 32; omega), if_neg hb]
      rw [split_l s hs d (i + 1) f k _ (by omega) (by omega) (by omega) (by omega)]
      have e : (s.data.toList.drop f).take (i + 1 - f) = (s.data.toList.drop f).take (i - f) ++ [s.data.toList[i]] := by
        rw [show i + 1 - f = (i - f) + 1 by omega, List.take_succ_eq_append_getElem (by rw [List.length_drop]; omega), List.getElem_drop]
        simp [show f + (i - f) = i by omega]
      rw [e]
theorem split_ev (s : ByteArray) (hs : s.size ≤ 1048576) : Ev (fun k => spec_l1Split.f k s 32) (pc [] s.data.toList) :=
  Ev.from s.size (fun k hk => by
    have := split_l s hs s.size 0 0 k [] (by omega) (Nat.le_refl _) (by simp) hk
    simpa [spec_l1Split.f] using this)
def rl : Int → List UInt8 → Option Int
  | acc, [] => some acc
  | acc, b :: r => if (b.toNat : Int) < 48 then none else if (b.toNat : Int) > 57 then none else if acc > 1000000 then none else rl (10 * acc + ((b.toNat : Int) - 48)) r
def rv (sg : Int) : Option Int → Int
  | none => 1000001
  | some n => wrap64 (sg * n)
theorem read_l (s : ByteArray) (hs : s.size ≤ 1048576) (sg : Int) : ∀ (d i k : Nat) (acc : Int), i + d = s.size → 0 ≤ acc → acc ≤ 10000009 → d < k →
    spec_ciRead.l0 k s sg acc (i : Int) = some (rv sg (rl acc (s.data.toList.drop i)))
  | 0, i, k, acc, hi, h0, h1, hk => by
    obtain ⟨k, rfl⟩ : ∃ m, k = m + 1 := ⟨k - 1, by omega⟩
    have hz := Lib.size_eq s
    rw [spec_ciRead.l0.eq_2, if_neg (by omega), List.drop_of_length_le (i := i) (by omega)]
    rfl
  | d + 1, i, k, acc, hi, h0, h1, hk => by
    obtain ⟨k, rfl⟩ : ∃ m, k = m + 1 := ⟨k - 1, by omega⟩
    have hz := Lib.size_eq s
    have hl : i < s.data.toList.length := by omega
    have ew : wrap64 ((i : Int) + 1) = ((i + 1 : Nat) : Int) := by rw [wrap_id] <;> omega
    rw [spec_ciRead.l0.eq_2, if_pos (by omega), if_pos (by omega), bt_nat s i hl, ew, List.drop_eq_getElem_cons hl, rl]
    by_cases c1 : ((s.data.toList[i]).toNat : Int) < 48
    · rw [if_pos c1, if_pos c1]; rfl
    · rw [if_neg c1, if_neg c1]
      by_cases c2 : ((s.data.toList[i]).toNat : Int) > 57
      · rw [if_pos c2, if_pos c2]; rfl
      · rw [if_neg c2, if_neg c2]
        by_cases c3 : acc > 1000000
        · rw [if_pos c3, if_pos c3]; rfl
        · rw [if_neg c3, if_neg c3]
          rw [wrap_id (x := 10 * acc) (by omega) (by omega), show (((s.data.toList[i]).toNat : Int) - 48) % 256 = ((s.data.toList[i]).toNat : Int) - 48 by omega, wrap_id (by omega) (by omega)]
          exact read_l s hs sg d (i + 1) k _ (by omega) (by omega) (by omega) (by omega)
def crd (s : ByteArray) : Int := if s.data.toList.head? = some 45 then rv (-1) (rl 0 s.data.toList.tail) else rv 1 (rl 0 s.data.toList)
theorem read0 (s : ByteArray) (hs : s.size ≤ 1048576) (sg : Int) : Ev (fun k => spec_ciRead.j1 k s sg) (rv sg (rl 0 s.data.toList)) :=
  Ev.step (fun k => spec_ciRead.j1.eq_2 s sg k) (Ev.from s.size (fun k hk => by
    have := read_l s hs sg s.size 0 k 0 (by omega) (by omega) (by omega) hk
    simpa using this))
theorem ciRead_ev (s : ByteArray) (hs : s.size ≤ 1048576) : Ev (fun k => spec_ciRead.f k s) (crd s) := by
  have hz := Lib.size_eq s
  unfold spec_ciRead.f crd
  cases hl : s.data.toList with
  | nil =>
    rw [hl] at hz
    simp only [List.length_nil] at hz
    simp only [show ¬ (s.size : Int) > 0 by omega, if_false]
    refine Ev.step (fun k => spec_ciRead.j0.eq_2 s 1 false k) ?_
    simp only [Bool.false_eq_true, if_false]
    have h1 := read0 s hs 1
    rw [hl] at h1
    exact h1
  | cons b r =>
    rw [hl] at hz
    simp only [List.length_cons] at hz
    have hb : bt s 0 = (b.toNat : Int) := by
      have := bt_nat s 0 (by rw [hl]; simp)
      simpa [hl] using this
    simp only [show (s.size : Int) > 0 by omega, if_true, show (0 : Int) < (s.size : Int) by omega]
    refine Ev.step (fun k => spec_ciRead.j0.eq_2 s 1 _ k) ?_
    rw [hb]
    simp only [List.head?_cons, List.tail_cons, Option.some.injEq]
    by_cases e : b = 45
    · subst e
      simp only [if_true, show (((45 : UInt8).toNat : Int) == 45) = true from rfl, show (1 : Int) ≤ (s.size : Int) by omega]
      have h1 := read0 (s.extract 1 s.size) (by rw [Lib.size_eq, Lib.extract_to_end, List.length_drop, ← Lib.size_eq]; omega) (-1)
      rw [Lib.extract_to_end, hl, List.drop_succ_cons, List.drop_zero] at h1
      exact h1
    · have e2 : ¬ ((b.toNat : Int) == 45) = true := by
        intro h
        apply e
        apply UInt8.toNat.inj
        have := beq_iff_eq.1 h
        show b.toNat = 45
        omega
      simp only [if_neg e, if_neg e2]
      rw [← hl]
      exact read0 s hs 1
theorem rl_snoc (b : UInt8) : ∀ (l : List UInt8) (acc : Int), rl acc (l ++ [b]) = (rl acc l).bind fun n => rl n [b]
  | [], acc => rfl
  | c :: l, acc => by
    rw [List.cons_append, rl, rl]
    split
    · rfl
    · split
      · rfl
      · split
        · rfl
        · exact rl_snoc b l _
theorem rl_dec : ∀ (u : Nat), u ≤ 10000000 → rl 0 (Lib.decDigits u) = some (u : Int) := by
  intro u
  induction u using Nat.strongRecOn with
  | _ u ih =>
    intro hu
    by_cases h : u < 10
    · rw [dec_small h, rl, digit_nat h, if_neg (by omega), if_neg (by omega), if_neg (by omega), rl]
      congr 1
      omega
    · rw [dec_big h, rl_snoc, ih (u / 10) (by omega) (by omega), Option.bind_some, rl, digit_nat (by omega), if_neg (by omega), if_neg (by omega), if_neg (by omega), rl]
      congr 1
      omega
theorem dec_ne (u : Nat) : ∃ c r, Lib.decDigits u = c :: r ∧ 48 ≤ c.toNat ∧ c.toNat ≤ 57 := by
  cases h : Lib.decDigits u with
  | nil =>
    by_cases hu : u < 10
    · rw [dec_small hu] at h; cases h
    · rw [dec_big hu] at h; simp at h
  | cons c r =>
    have := dec_digits u c (by rw [h]; simp)
    exact ⟨c, r, rfl, this⟩
theorem tx_data (a : Int) : (tx a).data.toList = Lib.itoa a := by simp [tx]
theorem crd_tx {a : Int} (h : bd a) : crd (tx a) = a := by
  unfold bd at h
  unfold crd
  rw [tx_data]
  unfold Lib.itoa
  by_cases hn : a < 0
  · rw [if_pos hn, List.head?_cons, if_pos rfl, List.tail_cons, rl_dec _ (by omega)]
    show wrap64 (-1 * (a.natAbs : Int)) = a
    rw [wrap_id] <;> omega
  · rw [if_neg hn]
    obtain ⟨c, r, e, h1, h2⟩ := dec_ne a.toNat
    rw [if_neg (by
      rw [e, List.head?_cons, Option.some.injEq]
      intro e2
      subst e2
      exact absurd h1 (by decide)), rl_dec _ (by omega)]
    show wrap64 (1 * (a.toNat : Int)) = a
    rw [wrap_id] <;> omega
theorem pu_snoc (b : UInt8) : ∀ (l : List UInt8) (acc n : Nat), Lib.parseUint10 acc l = .ok n → Lib.parseUint10 acc (l ++ [b]) = Lib.parseUint10 n [b]
  | [], acc, n, h => by
    simp only [Lib.parseUint10] at h
    injection h with h
    rw [h, List.nil_append]
  | c :: l, acc, n, h => by
    rw [List.cons_append]
    rw [Lib.parseUint10] at h ⊢
    split at h
    · rename_i h1
      rw [if_pos h1]
      split at h
      · cases h
      · rename_i h2
        rw [if_neg h2]
        split at h
        · cases h
        · rename_i h3
          rw [if_neg h3]
          exact pu_snoc b l _ n h
    · cases h
theorem pu_dec : ∀ (u : Nat), u ≤ 10000000 → Lib.parseUint10 0 (Lib.decDigits u) = .ok u := by
  intro u
  induction u using Nat.strongRecOn with
  | _ u ih =>
    intro hu
    by_cases h : u < 10
    · rw [dec_small h, Lib.parseUint10, digit_nat h, if_pos (by omega), if_neg (by omega), if_neg (by omega), Lib.parseUint10]
      congr 1
      omega
    · rw [dec_big h, pu_snoc _ _ _ _ (ih (u / 10) (by omega) (by omega)), Lib.parseUint10, digit_nat (by omega), if_pos (by omega), if_neg (by omega), if_neg (by omega), Lib.parseUint10]
      congr 1
      omega
theorem pm_dec (u : Nat) (hu : u ≤ 10000000) : Lib.parseMag (Lib.decDigits u) = .ok u := by
  obtain ⟨c, r, e, _, _⟩ := dec_ne u
  unfold Lib.parseMag
  rw [if_neg (by rw [e]; simp), pu_dec u hu]
theorem atoi_tx {a : Int} (h : bd a) : Lib.atoiAll (tx a).data.toList = .ok a := by
  unfold bd at h
  rw [tx_data]
  unfold Lib.itoa
  by_cases hn : a < 0
  · rw [if_pos hn, Lib.atoiAll_minus, pm_dec _ (by omega)]
    unfold Lib.signed
    simp only
    rw [if_neg (by omega)]
    congr 1
    omega
  · rw [if_neg hn]
    obtain ⟨c, r, e, h1, h2⟩ := dec_ne a.toNat
    have := pm_dec a.toNat (by omega)
    rw [e] at this ⊢
    rw [Lib.atoiAll_plain c r (by omega) (by omega), this]
    unfold Lib.signless
    simp only
    rw [if_neg (by omega)]
    congr 1
    omega
theorem ib_run : ∀ (l r : List UInt8), (∀ x ∈ l, x ≠ 32) → Lib.indexByte (l ++ 32 :: r) 32 = (l.length : Int)
  | [], r, _ => rfl
  | b :: l, r, h => by
    have h1 := ib_run l r (fun x hx => h x (by simp [hx]))
    rw [List.cons_append, Lib.indexByte, if_neg (by simpa using h b (by simp)), h1, if_neg (by simp only [beq_iff_eq]; omega)]
    simp
theorem ib_end : ∀ (l : List UInt8), (∀ x ∈ l, x ≠ 32) → Lib.indexByte l 32 = -1
  | [], _ => rfl
  | b :: l, h => by
    rw [Lib.indexByte, if_neg (by simpa using h b (by simp)), ib_end l (fun x hx => h x (by simp [hx]))]
    rfl
theorem sk_run (k : Nat) (l r : List UInt8) (h : ∀ x ∈ l, x ≠ 32) : Lib.splitK [32] 0 (k + 1) (l ++ 32 :: r) = l :: Lib.splitK [32] 0 k r := by
  rw [Lib.splitK, Lib.index_one, ib_run l r h, if_neg (by simp only [beq_iff_eq]; omega)]
  simp
theorem sk_end (k : Nat) (l : List UInt8) (h : ∀ x ∈ l, x ≠ 32) : Lib.splitK [32] 0 (k + 1) l = [l] := by
  rw [Lib.splitK, Lib.index_one, ib_end l h]
  rfl
theorem sb_mk (k : Nat) (s : ByteArray) : Lib.splitB (⟨#[32]⟩ : ByteArray) 0 k s = (Lib.splitK [32] 0 k s.data.toList).map mk := by
  rw [show ([32] : List UInt8) = (⟨#[32]⟩ : ByteArray).data.toList from rfl, ← Lib.splitB_data, List.map_map]
  have : (mk ∘ fun x : ByteArray => x.data.toList) = id := by
    funext x
    exact mk_of x
  rw [this, List.map_id]
theorem sk_len : ∀ (k : Nat) (l : List UInt8), ∀ x ∈ Lib.splitK [32] 0 k l, x.length ≤ l.length
  | 0, l, x, hx => by
    rw [Lib.splitK, List.mem_singleton] at hx
    rw [hx]
    exact Nat.le_refl _
  | k + 1, l, x, hx => by
    rw [Lib.splitK] at hx
    split at hx
    · rw [List.mem_singleton] at hx
      rw [hx]
      exact Nat.le_refl _
    · rcases List.mem_cons.1 hx with rfl | hx
      · rw [List.length_take]; omega
      · have := sk_len k _ x hx
        rw [List.length_drop] at this
        omega
def pieces (s : ByteArray) : List ByteArray := Lib.splitB (⟨#[32]⟩ : ByteArray) 0 (min 5 (s.size + 1) - 1) s
theorem splitN_f (s : ByteArray) (hs : s.size ≤ 1048576) : strings_SplitN.f s (⟨#[32]⟩ : ByteArray) 5 = some (pieces s) := by
  unfold strings_SplitN.f
  rw [if_pos (by omega), if_pos (by decide), if_pos (by decide), if_pos (by decide)]
  rfl
theorem pieces_len (s : ByteArray) : (pieces s).length ≤ 5 := by
  have := Lib.splitB_length_le (⟨#[32]⟩ : ByteArray) 0 (min 5 (s.size + 1) - 1) s
  unfold pieces
  omega
theorem pieces_size (s : ByteArray) : ∀ x ∈ pieces s, x.size ≤ s.size := by
  intro x hx
  unfold pieces at hx
  rw [sb_mk, List.mem_map] at hx
  obtain ⟨y, hy, rfl⟩ := hx
  have := sk_len _ _ y hy
  rw [Lib.size_eq, Lib.size_eq, mk_to]
  exact this
theorem pieces_ctx (a b c d : Int) : pieces (ctx a b c d) = [tx a, tx b, tx c, tx d] := by
  have hz := Lib.size_eq (ctx a b c d)
  have hd := congrArg List.length (ctx_data a b c d)
  simp only [List.length_append, List.length_cons] at hd
  obtain ⟨c1, r1, e1, _⟩ := dec_ne a.natAbs
  have h4 : min 5 ((ctx a b c d).size + 1) - 1 = 3 + 1 ∨ min 5 ((ctx a b c d).size + 1) - 1 = 2 + 1 := by omega
  unfold pieces
  rcases h4 with h4 | h4
  · rw [h4, sb_mk, ctx_data, sk_run _ _ _ (itoa_ne a), sk_run _ _ _ (itoa_ne b), sk_run _ _ _ (itoa_ne c), sk_end _ _ (itoa_ne d)]
    rfl
  · rw [h4, sb_mk, ctx_data, sk_run _ _ _ (itoa_ne a), sk_run _ _ _ (itoa_ne b), sk_run _ _ _ (itoa_ne c)]
    rfl
def av : List ByteArray → Option (List Int)
  | [] => some []
  | w :: r => match Lib.atoiAll w.data.toList with
    | .ok v => (av r).map (v :: ·)
    | _ => none
theorem tail_yes {a b c d : Int} (L : List ByteArray) (s : ByteArray) (h : isc a b c d = true) (he : ctx a b c d = s) : Ev (fun k => impl_ParseCircle.l0 k s [a, b, c, d] L (L.length : Int) (L.length : Int)) (a, b, c, d, true) := by
  obtain ⟨ha, hb, hc, hd⟩ := isc_b h
  refine Ev.step (fun k => impl_ParseCircle.l0.eq_2 _ _ _ _ _ k) ?_
  simp only [Int.lt_irrefl, if_false]
  simp only [List.length_cons, List.length_nil, show ((0 + 1 + 1 + 1 + 1 : Nat) : Int) = 4 from rfl, if_true, show (0 : Int) < 4 by decide, show (1 : Int) < 4 by decide, show (2 : Int) < 4 by decide, show (3 : Int) < 4 by decide]
  rw [show rd [a, b, c, d] 0 = a from rfl, show rd [a, b, c, d] 1 = b from rfl, show rd [a, b, c, d] 2 = c from rfl, show rd [a, b, c, d] 3 = d from rfl, isCircle_f, h]
  simp only [Option.bind_some, if_true]
  refine Ev.bind (words_ev ha hb hc hd) ?_
  rw [he, if_pos rfl]
  exact Ev.now _
theorem tail_no (vs : List Int) (L : List ByteArray) (s : ByteArray) (hno : ∀ a b c d, isc a b c d = true → ctx a b c d ≠ s) : Ev (fun k => impl_ParseCircle.l0 k s vs L (L.length : Int) (L.length : Int)) (0, 0, 0, 0, false) := by
  refine Ev.step (fun k => impl_ParseCircle.l0.eq_2 _ _ _ _ _ k) ?_
  simp only [Int.lt_irrefl, if_false]
  by_cases h4 : (vs.length : Int) = 4
  · obtain ⟨a, b, c, d, rfl⟩ : ∃ a b c d, vs = [a, b, c, d] := by
      match vs, h4 with
      | [a, b, c, d], _ => exact ⟨a, b, c, d, rfl⟩
      | [], h => simp at h
      | [_], h => simp at h
      | [_, _], h => simp at h
      | [_, _, _], h => simp at h
      | _ :: _ :: _ :: _ :: _ :: r, h => simp at h; omega
    simp only [List.length_cons, List.length_nil, show ((0 + 1 + 1 + 1 + 1 : Nat) : Int) = 4 from rfl, if_true, show (0 : Int) < 4 by decide, show (1 : Int) < 4 by decide, show (2 : Int) < 4 by decide, show (3 : Int) < 4 by decide]
    rw [show rd [a, b, c, d] 0 = a from rfl, show rd [a, b, c, d] 1 = b from rfl, show rd [a, b, c, d] 2 = c from rfl, show rd [a, b, c, d] 3 = d from rfl, isCircle_f]
    simp only [Option.bind_some]
    by_cases hg : isc a b c d = true
    · obtain ⟨ha, hb, hc, hd⟩ := isc_b hg
      simp only [hg, if_true]
      refine Ev.bind (words_ev ha hb hc hd) ?_
      rw [if_neg (by
        intro e
        exact hno a b c d hg (ByteArray.ext (Array.ext' (by simpa [ByteArray.toList_eq] using e))))]
      exact Ev.now _
    · simp only [hg, if_false]
      exact Ev.now _
  · simp only [h4, if_false]
    exact Ev.now _

theorem atoi_f {w : ByteArray} (h : w.size ≤ 1048576) : strconv_Atoi.f w = (match Lib.atoiAll w.data.toList with | .ok v => some (v, none) | .range => some (Lib.atoiSat w.data.toList, some 1) | _ => some (0, some 2)) := by
  unfold strconv_Atoi.f
  rw [if_pos (by omega)]
  cases Lib.atoiAll w.data.toList <;> rfl
theorem loop_ev (s : ByteArray) (L : List ByteArray) (hL : L.length ≤ 5) (hz : ∀ x ∈ L, x.size ≤ 1048576) (r : Int × Int × Int × Int × Bool) (hbad : av L = none → r = (0, 0, 0, 0, false)) : ∀ (d i : Nat) (acc : List Int), i + d = L.length → acc.length ≤ i →
    (av (L.drop i) = none → av L = none) → (∀ vs, av (L.drop i) = some vs → Ev (fun k => impl_ParseCircle.l0 k s (acc ++ vs) L (L.length : Int) (L.length : Int)) r) →
    Ev (fun k => impl_ParseCircle.l0 k s acc L (L.length : Int) (i : Int)) r
  | 0, i, acc, hi, ha, hn, hy => by
    have e : i = L.length := by omega
    subst e
    have := hy [] (by rw [List.drop_length]; rfl)
    rwa [List.append_nil] at this
  | d + 1, i, acc, hi, ha, hn, hy => by
    have hl : i < L.length := by omega
    have hlt : (i : Int) < (L.length : Int) := by omega
    have ew : wrap64 ((i : Int) + 1) = ((i + 1 : Nat) : Int) := by rw [wrap_id] <;> omega
    have hr : rdOf ByteArray.empty L (i : Int) = L[i] := by
      unfold rdOf
      rw [Int.toNat_natCast, List.getD_eq_getElem?_getD, List.getElem?_eq_getElem hl]; rfl
    rw [List.drop_eq_getElem_cons hl] at hn hy
    refine Ev.step (fun k => impl_ParseCircle.l0.eq_2 _ _ _ _ _ k) ?_
    simp only [hlt, if_true, show (0 : Int) ≤ (i : Int) by omega, hr, atoi_f (hz _ (List.getElem_mem hl)), ew]
    rw [av] at hn hy
    cases hend : Lib.atoiAll (L[i]).data.toList with
    | ok v =>
      rw [hend] at hn hy
      simp only [Option.bind_some, Option.isNone_none, if_true, show acc.length < 17592186044416 by omega]
      refine loop_ev s L hL hz r hbad d (i + 1) (acc ++ [v]) (by omega) (by simp; omega) ?_ ?_
      · intro h
        exact hn (by simp only [h, Option.map_none])
      · intro vs h
        have := hy (v :: vs) (by simp only [h, Option.map_some])
        rwa [List.append_assoc]
    | range =>
      rw [hend] at hn
      simp only [Option.bind_some, Option.isNone_some, Bool.false_eq_true, if_false]
      rw [hbad (hn rfl)]
      exact Ev.now _
    | _ =>
      rw [hend] at hn
      simp only [Option.bind_some, Option.isNone_some, Bool.false_eq_true, if_false]
      rw [hbad (hn rfl)]
      exact Ev.now _
theorem impl_yes {a b c d : Int} (s : ByteArray) (hs : s.size ≤ 1048576) (h : isc a b c d = true) (he : ctx a b c d = s) : Ev (fun k => impl_ParseCircle.f k s) (a, b, c, d, true) := by
  obtain ⟨ha, hb, hc, hd⟩ := isc_b h
  unfold impl_ParseCircle.f
  rw [splitN_f s hs]
  simp only [Option.bind_some]
  have hp : pieces s = [tx a, tx b, tx c, tx d] := by rw [← he, pieces_ctx]
  have hv : av (pieces s) = some [a, b, c, d] := by
    rw [hp]
    simp only [av, atoi_tx ha, atoi_tx hb, atoi_tx hc, atoi_tx hd, Option.map_some]
  refine loop_ev s (pieces s) (pieces_len s) (fun x hx => Nat.le_trans (pieces_size s x hx) hs) _ (fun h => by rw [hv] at h; cases h) (pieces s).length 0 [] (by omega) (by simp) (fun h => by simpa using h) ?_
  intro vs hvs
  rw [List.drop_zero, hv] at hvs
  cases hvs
  exact tail_yes _ s h he
theorem impl_no (s : ByteArray) (hs : s.size ≤ 1048576) (hno : ∀ a b c d, isc a b c d = true → ctx a b c d ≠ s) : Ev (fun k => impl_ParseCircle.f k s) (0, 0, 0, 0, false) := by
  unfold impl_ParseCircle.f
  rw [splitN_f s hs]
  simp only [Option.bind_some]
  refine loop_ev s (pieces s) (pieces_len s) (fun x hx => Nat.le_trans (pieces_size s x hx) hs) _ (fun _ => rfl) (pieces s).length 0 [] (by omega) (by simp) (fun h => by simpa using h) ?_
  intro vs _
  exact tail_no _ _ s hno
theorem four_of {l : List ByteArray} (h : (l.length : Int) = 4) : ∃ a b c d, l = [a, b, c, d] := by
  match l, h with
  | [a, b, c, d], _ => exact ⟨a, b, c, d, rfl⟩
  | [], h => simp at h
  | [_], h => simp at h
  | [_, _], h => simp at h
  | [_, _, _], h => simp at h
  | _ :: _ :: _ :: _ :: _ :: r, h => simp at h; omega
theorem pc_size : ∀ (l cur : List UInt8), ∀ x ∈ pc cur l, x.size ≤ cur.length + l.length
  | [], cur, x, hx => by
    rw [pc, List.mem_singleton] at hx
    rw [hx, Lib.size_eq, mk_to]
    omega
  | b :: l, cur, x, hx => by
    rw [pc] at hx
    split at hx
    · rcases List.mem_cons.1 hx with rfl | hx
      · rw [Lib.size_eq, mk_to, List.length_cons]; omega
      · have := pc_size l [] x hx
        simp only [List.length_nil, List.length_cons] at this ⊢
        omega
    · have := pc_size l _ x hx
      simp only [List.length_append, List.length_cons, List.length_nil] at this ⊢
      omega
theorem spec_parse (s : ByteArray) (hs : s.size ≤ 1048576) (r : Int × Int × Int × Int × Bool)
    (hr : ∀ w1 w2 w3 w4, pc [] s.data.toList = [w1, w2, w3, w4] → isc (crd w1) (crd w2) (crd w3) (crd w4) = true → r = (if ctx (crd w1) (crd w2) (crd w3) (crd w4) = s then (crd w1, crd w2, crd w3, crd w4, true) else (0, 0, 0, 0, false)))
    (hf : ¬ (∃ w1 w2 w3 w4, pc [] s.data.toList = [w1, w2, w3, w4] ∧ isc (crd w1) (crd w2) (crd w3) (crd w4) = true) → r = (0, 0, 0, 0, false)) : Ev (fun k => spec_ParseCircle.f k s) r := by
  unfold spec_ParseCircle.f
  refine Ev.bind (split_ev s hs) ?_
  by_cases h4 : ((pc [] s.data.toList).length : Int) = 4
  · obtain ⟨w1, w2, w3, w4, e⟩ := four_of h4
    have hz : ∀ x ∈ pc [] s.data.toList, x.size ≤ 1048576 := by
      intro x hx
      have := pc_size _ _ x hx
      rw [← Lib.size_eq] at this
      simp only [List.length_nil] at this
      omega
    rw [e] at hz ⊢
    simp only [List.length_cons, List.length_nil, show ((0 + 1 + 1 + 1 + 1 : Nat) : Int) = 4 from rfl, if_true, show (0 : Int) < 4 by decide, show (1 : Int) < 4 by decide, show (2 : Int) < 4 by decide, show (3 : Int) < 4 by decide]
    rw [show rdOf ByteArray.empty [w1, w2, w3, w4] 0 = w1 from rfl, show rdOf ByteArray.empty [w1, w2, w3, w4] 1 = w2 from rfl, show rdOf ByteArray.empty [w1, w2, w3, w4] 2 = w3 from rfl, show rdOf ByteArray.empty [w1, w2, w3, w4] 3 = w4 from rfl]
    refine Ev.bind (ciRead_ev w1 (hz w1 (by simp))) ?_
    refine Ev.bind (ciRead_ev w2 (hz w2 (by simp))) ?_
    refine Ev.bind (ciRead_ev w3 (hz w3 (by simp))) ?_
    refine Ev.bind (ciRead_ev w4 (hz w4 (by simp))) ?_
    refine Ev.bind (good_ev _ _ _ _) ?_
    by_cases hg : isc (crd w1) (crd w2) (crd w3) (crd w4) = true
    · obtain ⟨ha, hb, hc, hd⟩ := isc_b hg
      rw [hr w1 w2 w3 w4 e hg]
      simp only [hg, if_true]
      refine Ev.bind (ciText_ev ha hb hc hd) ?_
      by_cases hq : ctx (crd w1) (crd w2) (crd w3) (crd w4) = s
      · rw [if_pos hq, hq, if_pos rfl]
        exact Ev.now _
      · rw [if_neg hq, if_neg (by
          intro e2
          exact hq (ByteArray.ext (Array.ext' (by simpa [ByteArray.toList_eq] using e2))))]
        exact Ev.now _
    · rw [hf (by
        rintro ⟨v1, v2, v3, v4, e2, hg2⟩
        rw [e] at e2
        cases e2
        exact hg hg2)]
      simp only [hg, if_false]
      exact Ev.now _
  · rw [hf (by
      rintro ⟨v1, v2, v3, v4, e2, _⟩
      rw [e2] at h4
      exact h4 rfl)]
    simp only [h4, if_false]
    exact Ev.now _
theorem spec_yes {a b c d : Int} (s : ByteArray) (hs : s.size ≤ 1048576) (h : isc a b c d = true) (he : ctx a b c d = s) : Ev (fun k => spec_ParseCircle.f k s) (a, b, c, d, true) := by
  obtain ⟨ha, hb, hc, hd⟩ := isc_b h
  have hp : pc [] s.data.toList = [tx a, tx b, tx c, tx d] := by rw [← he, pc_ctx]
  refine spec_parse s hs _ ?_ ?_
  · intro w1 w2 w3 w4 e _
    rw [hp] at e
    cases e
    rw [crd_tx ha, crd_tx hb, crd_tx hc, crd_tx hd, if_pos he]
  · intro hn
    exact absurd ⟨tx a, tx b, tx c, tx d, hp, by rw [crd_tx ha, crd_tx hb, crd_tx hc, crd_tx hd]; exact h⟩ hn
theorem spec_no (s : ByteArray) (hs : s.size ≤ 1048576) (hno : ∀ a b c d, isc a b c d = true → ctx a b c d ≠ s) : Ev (fun k => spec_ParseCircle.f k s) (0, 0, 0, 0, false) := by
  refine spec_parse s hs _ ?_ (fun _ => rfl)
  intro w1 w2 w3 w4 _ hg
  rw [if_neg (hno _ _ _ _ hg)]

end Go.Proofs.YtbcanhikldbhbaaDoor.P
