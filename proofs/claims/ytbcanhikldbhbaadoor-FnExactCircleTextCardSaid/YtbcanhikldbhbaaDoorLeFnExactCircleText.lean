import Derived.Test.YtbcanhikldbhbaaDoorP1
import Derived.Test.YtbcanhikldbhbaaDoorP2
import Derived.Test.YtbcanhikldbhbaaDoorP3
import Derived.Test.YtbcanhikldbhbaaDoorP4
import Derived.Test.YtbcanhikldbhbaaDoorP5
namespace Go.Proofs.YtbcanhikldbhbaaDoor.P
open Go.RowKit Go.Proofs.YtbcanhikldbhbaaDoorW.PrintWords Go.Proofs.YtbcanhikldbhbaaDoorW.PrintLast Go.Proofs.YtbcanhikldbhbaaDoorW.PrintMore
theorem wrap_id {x : Int} (h0 : -9223372036854775808 ≤ x) (h1 : x ≤ 9223372036854775807) : wrap64 x = x := by unfold wrap64; omega
theorem rdi_at {l : List Int} {i : Nat} (h : i < l.length) : rd l (i : Int) = l[i] := by simp [rd, List.getD_eq_getElem?_getD, List.getElem?_eq_getElem h]
theorem l1In_f (x lo hi : Int) : spec_l1In.f x lo hi = some (inB lo hi x) := by
  unfold spec_l1In.f inB
  by_cases h : x ≥ lo
  · rw [if_pos h]; simp [show lo ≤ x from h]
  · rw [if_neg h]; simp [show ¬ lo ≤ x from h]
theorem inB_iff {lo hi x : Int} : inB lo hi x = true ↔ lo ≤ x ∧ x ≤ hi := by simp [inB]
theorem Ev.all {α : Type} {f : Option α} {r : α} (h : f = some r) : Ev (fun _ => f) r := ⟨0, fun _ _ => h⟩
theorem Ev.from {α : Type} {g : Nat → Option α} {r : α} (K : Nat) (h : ∀ k, K < k → g k = some r) : Ev g r := ⟨K + 1, fun k hk => h k (by omega)⟩
theorem l1All_l (lo hi : Int) (l : List Int) (hl : (l.length : Int) ≤ 9223372036854775806) (d : Nat) : ∀ (i k : Nat), i + d = l.length → d < k → spec_l1All.l0 k lo hi l (l.length : Int) (i : Int) = some ((l.drop i).all (inB lo hi)) := by
  induction d with
  | zero =>
    intro i k hi' hk
    obtain ⟨k, rfl⟩ : ∃ m, k = m + 1 := ⟨k - 1, by omega⟩
    simp only [spec_l1All.l0]
    rw [if_neg (by omega), List.drop_of_length_le (by omega)]
    rfl
  | succ d ih =>
    intro i k hi' hk
    obtain ⟨k, rfl⟩ : ∃ m, k = m + 1 := ⟨k - 1, by omega⟩
    have hil : i < l.length := by omega
    simp only [spec_l1All.l0]
    rw [if_pos (by omega), if_pos (by omega), if_pos (by omega), l1In_f, rdi_at hil, wrap_id (by omega) (by omega)]
    simp only [Option.bind_some]
    rw [List.drop_eq_getElem_cons hil, List.all_cons]
    cases inB lo hi l[i] with
    | false => simp
    | true =>
      simp only [if_true, Bool.true_and]
      exact ih (i + 1) k (by omega) (by omega)
theorem l1All_ev (lo hi : Int) (l : List Int) (hl : (l.length : Int) ≤ 9223372036854775806) : Ev (fun k => spec_l1All.f k l lo hi) (l.all (inB lo hi)) :=
  Ev.from l.length (fun k hk => by
    have := l1All_l lo hi l hl l.length 0 k (by omega) hk
    simpa [spec_l1All.f] using this)

def bd (x : Int) : Prop := -1000000 ≤ x ∧ x ≤ 1000000
def isc (a b c d : Int) : Bool := ([a, b, c, d] : List Int).all (inB (-1000000) 1000000) && ((wrap64 ((wrap64 ((wrap64 (c * c)) + (wrap64 (d * d)))) - (wrap64 (a * b)))) == 1)
theorem isc_b {a b c d : Int} (h : isc a b c d = true) : bd a ∧ bd b ∧ bd c ∧ bd d := by
  unfold isc at h
  unfold bd
  simp only [List.all_cons, List.all_nil, Bool.and_true, Bool.and_eq_true, inB_iff] at h
  exact ⟨h.1.1, h.1.2.1, h.1.2.2.1, h.1.2.2.2⟩
theorem good_ev (a b c d : Int) : Ev (fun k => spec_ciGood.f k a b c d) (isc a b c d) := by
  have h := l1All_ev (-1000000) 1000000 [a, b, c, d] (by simp)
  unfold spec_ciGood.f
  refine Ev.bind h ?_
  unfold isc
  cases ([a, b, c, d] : List Int).all (inB (-1000000) 1000000) with
  | true => simp only [if_true]; exact Ev.now _
  | false => simp only [Bool.false_eq_true, if_false]; exact Ev.now _
theorem isCircle_f (a b c d : Int) : impl_IsCircle.f a b c d = some (isc a b c d) := by
  unfold impl_IsCircle.f impl_Circle_numbers.f impl_allWithin.f isc
  simp only [Option.bind_some]
  cases ([a, b, c, d] : List Int).all (inB (-1000000) 1000000) with
  | true => simp only [if_true, Bool.true_and]
  | false => simp only [Bool.false_eq_true, if_false, Bool.false_and]
def tx (n : Int) : ByteArray := ⟨(Lib.itoa n).toArray⟩
theorem mk_app (l m : List UInt8) : (⟨l.toArray⟩ : ByteArray) ++ ⟨m.toArray⟩ = ⟨(l ++ m).toArray⟩ := by
  apply ByteArray.ext
  rw [ByteArray.data_append]
  simp
theorem mk_size (l : List UInt8) : (⟨l.toArray⟩ : ByteArray).size = l.length := by simp [ByteArray.size]
theorem dec_small {u : Nat} (h : u < 10) : Lib.decDigits u = [UInt8.ofNat (48 + u)] := by rw [Lib.decDigits, dif_pos h]
theorem dec_big {u : Nat} (h : ¬ u < 10) : Lib.decDigits u = Lib.decDigits (u / 10) ++ [UInt8.ofNat (48 + u % 10)] := by rw [Lib.decDigits, dif_neg h]
theorem dec_len (u : Nat) : (Lib.decDigits u).length ≤ u + 1 := by
  induction u using Nat.strongRecOn with
  | _ u ih =>
    by_cases h : u < 10
    · rw [dec_small h]; simp
    · rw [dec_big h]
      have := ih (u / 10) (by omega)
      simp only [List.length_append, List.length_cons, List.length_nil]
      omega
theorem one_digit (d : Int) (h0 : 0 ≤ d) (h1 : d < 10) : strOfNums (([(wrap64 (48 + d)) % 256] : List Int)) = ⟨([UInt8.ofNat (48 + d.toNat)] : List UInt8).toArray⟩ := by
  rw [wrap_id (by omega) (by omega)]
  unfold strOfNums
  simp only [List.map_cons, List.map_nil]
  rw [show ((48 + d) % 256).toNat = 48 + d.toNat by omega]
theorem l1Num_ev : ∀ (u : Nat), u ≤ 100000000 → Ev (fun k => spec_l1Num.f k (u : Int)) ⟨(Lib.decDigits u).toArray⟩ := by
  intro u
  induction u using Nat.strongRecOn with
  | _ u ih =>
    intro hu
    refine Ev.step (fun _ => spec_l1Num.f.eq_2 _ _) ?_
    by_cases h : u < 10
    · simp only [if_pos (show (u : Int) < 10 by omega)]
      rw [dec_small h, one_digit u (by omega) (by omega), Int.toNat_natCast]
      exact Ev.now _
    · simp only [if_neg (show ¬ (u : Int) < 10 by omega)]
      have e1 : wrap64 (Int.tdiv (u : Int) 10) = ((u / 10 : Nat) : Int) := by
        rw [Int.tdiv_eq_ediv_of_nonneg (by omega)]
        rw [wrap_id] <;> omega
      have e2 : Int.tmod (u : Int) 10 = ((u % 10 : Nat) : Int) := by
        rw [Int.tmod_eq_emod_of_nonneg (by omega)]
        omega
      rw [e1, e2]
      refine Ev.bind (ih (u / 10) (by omega) (by omega)) ?_
      simp only [Option.bind_some]
      rw [one_digit _ (by omega) (by omega), mk_size, mk_size, Int.toNat_natCast]
      have := dec_len (u / 10)
      rw [if_pos (by simp only [List.length_cons, List.length_nil]; omega), mk_app, ← dec_big h]
      exact Ev.now _
theorem tx_size {n : Int} (h : bd n) : (tx n).size ≤ 1000002 := by
  unfold tx Lib.itoa
  rw [mk_size]
  have h1 := dec_len n.natAbs
  have h2 := dec_len n.toNat
  unfold bd at h
  split
  · simp only [List.length_cons]; omega
  · omega
theorem ciNumber_ev (n : Int) (h : bd n) : Ev (fun k => spec_ciNumber.f k n) (tx n) := by
  unfold bd at h
  unfold spec_ciNumber.f tx Lib.itoa
  by_cases hn : n < 0
  · simp only [if_pos hn]
    have e1 : wrap64 (-n) = ((n.natAbs : Nat) : Int) := by rw [wrap_id] <;> omega
    rw [e1]
    refine Ev.bind (l1Num_ev n.natAbs (by omega)) ?_
    have := dec_len n.natAbs
    rw [mk_size, if_pos (by omega)]
    rw [show (⟨#[45]⟩ : ByteArray) = ⟨([45] : List UInt8).toArray⟩ from rfl, mk_app]
    exact Ev.now _
  · simp only [if_neg hn]
    have e1 : n = ((n.toNat : Nat) : Int) := by omega
    have := l1Num_ev n.toNat (by omega)
    rw [← e1] at this
    exact Ev.bind this (Ev.now _)
def ctx (a b c d : Int) : ByteArray := ((((((tx a ++ (⟨#[32]⟩ : ByteArray)) ++ tx b) ++ (⟨#[32]⟩ : ByteArray)) ++ tx c) ++ (⟨#[32]⟩ : ByteArray)) ++ tx d)
theorem sp_size : (⟨#[32]⟩ : ByteArray).size = 1 := rfl
theorem Ev.iff {α : Type} {c : Prop} [Decidable c] {f : Nat → Option α} {g : Nat → Option α} {r : α} (h : c) (hf : Ev f r) : Ev (fun k => if c then f k else g k) r := by
  simp only [if_pos h]
  exact hf
theorem ciText_ev {a b c d : Int} (ha : bd a) (hb : bd b) (hc : bd c) (hd : bd d) : Ev (fun k => spec_ciText.f k a b c d) (ctx a b c d) := by
  have sa := tx_size ha; have sb := tx_size hb; have sc := tx_size hc; have sd := tx_size hd
  unfold spec_ciText.f
  refine Ev.bind (ciNumber_ev a ha) (Ev.iff (by omega) ?_)
  refine Ev.bind (ciNumber_ev b hb) (Ev.iff (by simp only [ByteArray.size_append, sp_size]; omega) (Ev.iff (by simp only [ByteArray.size_append, sp_size]; omega) ?_))
  refine Ev.bind (ciNumber_ev c hc) (Ev.iff (by simp only [ByteArray.size_append, sp_size]; omega) (Ev.iff (by simp only [ByteArray.size_append, sp_size]; omega) ?_))
  refine Ev.bind (ciNumber_ev d hd) (Ev.iff (by simp only [ByteArray.size_append, sp_size]; omega) (Ev.now _))
theorem specText_ev (a b c d : Int) : Ev (fun k => spec_CircleText.f k a b c d) (if isc a b c d = true then (ctx a b c d, true) else (⟨#[]⟩, false)) := by
  unfold spec_CircleText.f
  refine Ev.bind (good_ev a b c d) ?_
  by_cases h : isc a b c d = true
  · obtain ⟨ha, hb, hc, hd⟩ := isc_b h
    simp only [if_pos h]
    exact Ev.bind (ciText_ev ha hb hc hd) (Ev.now _)
  · simp only [if_neg h]
    exact Ev.now _
theorem join_f {a b c d : Int} (ha : bd a) (hb : bd b) (hc : bd c) (hd : bd d) : strings_Join.f [tx a, tx b, tx c, tx d] ⟨#[32]⟩ = some (ctx a b c d) := by
  have sa := tx_size ha; have sb := tx_size hb; have sc := tx_size hc; have sd := tx_size hd
  have e : (⟨(Lib.join ([tx a, tx b, tx c, tx d].map (·.data.toList)) (⟨#[32]⟩ : ByteArray).data.toList).toArray⟩ : ByteArray) = ctx a b c d := by
    apply ByteArray.ext
    unfold ctx
    simp only [List.map_cons, List.map_nil, Lib.join_cons, Lib.joinTail, List.flatten_cons, List.flatten_nil, ByteArray.data_append]
    apply Array.ext'
    simp [List.append_assoc]
  have el : (Lib.join ([tx a, tx b, tx c, tx d].map (·.data.toList)) (⟨#[32]⟩ : ByteArray).data.toList).length = (ctx a b c d).size := by
    rw [← e, mk_size]
  unfold strings_Join.f
  rw [if_pos (by simp), if_pos (by rw [el]; unfold ctx; simp only [ByteArray.size_append, sp_size]; omega), e]
theorem itoa_f {n : Int} (h : bd n) : strconv_Itoa.f n = some (tx n) := by
  unfold bd at h
  unfold strconv_Itoa.f
  rw [if_pos (by omega), if_pos (by omega)]
  rfl
theorem words_ev {a b c d : Int} (ha : bd a) (hb : bd b) (hc : bd c) (hd : bd d) : Ev (fun k => impl_words.f k [a, b, c, d]) (ctx a b c d) := by
  refine Ev.from 5 ?_
  intro k hk
  obtain ⟨k, rfl⟩ : ∃ m, k = m + 5 := ⟨k - 5, by omega⟩
  have w1 : wrap64 (0 + 1) = 1 := wrap_id (by omega) (by omega)
  have w2 : wrap64 (1 + 1) = 2 := wrap_id (by omega) (by omega)
  have w3 : wrap64 (2 + 1) = 3 := wrap_id (by omega) (by omega)
  have w4 : wrap64 (3 + 1) = 4 := wrap_id (by omega) (by omega)
  have r0 : rd [a, b, c, d] 0 = a := rfl
  have r1 : rd [a, b, c, d] 1 = b := rfl
  have r2 : rd [a, b, c, d] 2 = c := rfl
  have r3 : rd [a, b, c, d] 3 = d := rfl
  unfold impl_words.f
  have hl : (([a, b, c, d] : List Int).length : Int) = 4 := rfl
  rw [hl]
  rw [impl_words.l0.eq_2, if_pos (by decide), if_pos (by decide), hl, if_pos (by decide), r0, itoa_f ha, Option.bind_some, if_pos (by decide), w1]
  rw [impl_words.l0.eq_2, if_pos (by decide), if_pos (by decide), hl, if_pos (by decide), r1, itoa_f hb, Option.bind_some, if_pos (by simp), w2]
  rw [impl_words.l0.eq_2, if_pos (by decide), if_pos (by decide), hl, if_pos (by decide), r2, itoa_f hc, Option.bind_some, if_pos (by simp), w3]
  rw [impl_words.l0.eq_2, if_pos (by decide), if_pos (by decide), hl, if_pos (by decide), r3, itoa_f hd, Option.bind_some, if_pos (by simp), w4]
  rw [impl_words.l0.eq_2, if_neg (by decide)]
  simp only [List.nil_append, List.cons_append]
  rw [join_f ha hb hc hd]
  rfl
theorem implText_ev (a b c d : Int) : Ev (fun k => impl_CircleText.f k a b c d) (if isc a b c d = true then (ctx a b c d, true) else (⟨#[]⟩, false)) := by
  unfold impl_CircleText.f impl_Circle_numbers.f
  rw [isCircle_f]
  simp only [Option.bind_some]
  by_cases h : isc a b c d = true
  · obtain ⟨ha, hb, hc, hd⟩ := isc_b h
    simp only [if_pos h]
    exact Ev.bind (words_ev ha hb hc hd) (Ev.now _)
  · simp only [if_neg h]
    exact Ev.now _

end Go.Proofs.YtbcanhikldbhbaaDoor.P
