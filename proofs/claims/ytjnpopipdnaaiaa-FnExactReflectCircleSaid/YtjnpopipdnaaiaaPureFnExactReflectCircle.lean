/- For every input the statement FnExactReflectCircle holds of what the program and the reference compute, told as plain Lean functions; there is no further condition. -/
import Derived.Test.YtjnpopipdnaaiaaP1
import Derived.Test.YtjnpopipdnaaiaaP3
import Derived.Test.YtjnpopipdnaaiaaP13
import Derived.Test.YtjnpopipdnaaiaaP14
import Derived.Test.YtjnpopipdnaaiaaP15
import Derived.Test.YtjnpopipdnaaiaaP16
import Derived.Test.YtjnpopipdnaaiaaP17
import Derived.Test.YtjnpopipdnaaiaaLeFnExactReflectCircle
namespace Go.Proofs.Ytjnpopipdnaaiaa.Pure
open Go.RowKit Go.Proofs.Ytjnpopipdnaaiaa.P Go.Proofs.YtjnpopipdnaaiaaW.PrintWords Go.Proofs.YtjnpopipdnaaiaaW.PrintLast Go.Proofs.YtjnpopipdnaaiaaW.PrintMore

theorem FnExactReflectCircle (a b c d e f g h : Int) (_ : (Lit.int .i64 a).wf = true) (_ : (Lit.int .i64 b).wf = true) (_ : (Lit.int .i64 c).wf = true) (_ : (Lit.int .i64 d).wf = true) (_ : (Lit.int .i64 e).wf = true) (_ : (Lit.int .i64 f).wf = true) (_ : (Lit.int .i64 g).wf = true) (_ : (Lit.int .i64 h).wf = true) : ∃ k, laws_FnExactReflectCircle.f k a b c d e f g h = some true := by
  suffices h : Ev (fun k => laws_FnExactReflectCircle.f k a b c d e f g h) true by
    obtain ⟨K, h⟩ := h
    exact ⟨K, h K (Nat.le_refl _)⟩
  unfold laws_FnExactReflectCircle.f laws_toCircle.f
  simp only [Option.bind_some]
  obtain ⟨p, h1, h2⟩ : ∃ p, Ev (fun k => spec_ReflectCircle.f k a b c d e f g h) p ∧ impl_ReflectCircle.f a b c d e f g h = some p := by
    have j0 : ∀ _x : Nat, Ev (fun k => spec_ReflectCircle.j0 k true a b c d e f g h) (0, 0, 0, 0, false) := fun x => Ev.from 0 (fun k hk => by
      obtain ⟨k, rfl⟩ : ∃ m, k = m + 1 := ⟨k - 1, by omega⟩
      simp [spec_ReflectCircle.j0])
    unfold spec_ReflectCircle.f impl_ReflectCircle.f impl_areCircles.f
    simp only [List.all_cons, List.all_nil, Bool.and_true, Option.bind_some]
    have e1 := ciGood_ev a b c d
    have e2 := ciGood_ev e f g h
    cases h1 : isC ⟨a, b, c, d⟩ with
    | false =>
      rw [h1] at e1
      exact ⟨_, Ev.bind e1 (by simp only [Bool.false_eq_true, if_false]; exact j0 0), rfl⟩
    | true =>
      rw [h1] at e1
      cases h2 : isC ⟨e, f, g, h⟩ with
      | false =>
        rw [h2] at e2
        exact ⟨_, Ev.bind e1 (Ev.bind e2 (by simp only [Bool.not_false]; exact j0 0)), rfl⟩
      | true =>
        rw [h2] at e2
        obtain ⟨c1, q1⟩ := (isC_iff _).1 h1
        obtain ⟨c2, q2⟩ := (isC_iff _).1 h2
        obtain ⟨t0, t1, ht⟩ := twi_b c1 c2
        have hd : twi ⟨a, b, c, d⟩ ⟨e, f, g, h⟩ = 2 * c * g + 2 * d * h - a * f - b * e := rfl
        generalize twi ⟨a, b, c, d⟩ ⟨e, f, g, h⟩ = t at *
        simp only [bnd] at c1 c2 q1 q2 ht
        have m0 := sqb (a := t) (b := e) (A := 6000000000000) (B := 1000000) (by omega) (by omega) (by omega) (by omega)
        have m1 := sqb (a := t) (b := f) (A := 6000000000000) (B := 1000000) (by omega) (by omega) (by omega) (by omega)
        have m2 := sqb (a := t) (b := g) (A := 6000000000000) (B := 1000000) (by omega) (by omega) (by omega) (by omega)
        have m3 := sqb (a := t) (b := h) (A := 6000000000000) (B := 1000000) (by omega) (by omega) (by omega) (by omega)
        have hre := reflect_eq q1 q2 hd
        have eI := ciIf_ev (a - t * e) (b - t * f) (c - t * g) (d - t * h)
        rw [isC_of hre] at eI
        rw [ht]
        simp only [Option.bind_some, Bool.and_self, if_true]
        rw [wrap_id (x := t * e) (by omega) (by omega), wrap_id (x := t * f) (by omega) (by omega), wrap_id (x := t * g) (by omega) (by omega), wrap_id (x := t * h) (by omega) (by omega), wrap_id (x := a - t * e) (by omega) (by omega), wrap_id (x := b - t * f) (by omega) (by omega), wrap_id (x := c - t * g) (by omega) (by omega), wrap_id (x := d - t * h) (by omega) (by omega), drawn_f]
        refine ⟨_, Ev.bind e1 (Ev.bind e2 ?_), rfl⟩
        have key : Ev (fun k => ((spec_ciFits.f t e).bind fun t366 => (if t366 = true then ((spec_ciFits.f t f).bind fun t367 => (if t367 = true then ((spec_ciFits.f t g).bind fun t368 => (if t368 = true then ((spec_ciFits.f t h).bind fun t369 => (if t369 = true then ((spec_ciIf.f k (a - t * e) (b - t * f) (c - t * g) (d - t * h)).bind fun bt370 => (some (bt370.1, bt370.2.1, bt370.2.2.1, bt370.2.2.2.1, bt370.2.2.2.2))) else (some (0, 0, 0, 0, false)))) else (some (0, 0, 0, 0, false)))) else (some (0, 0, 0, 0, false)))) else (some (0, 0, 0, 0, false)))))
            (if inC ⟨a - t * e, b - t * f, c - t * g, d - t * h⟩ = true then (a - t * e, b - t * f, c - t * g, d - t * h, true) else (0, 0, 0, 0, false)) := by
          rw [ciFits_f (t := t) (d := e) (by omega) (by omega) (by omega) (by omega), ciFits_f (t := t) (d := f) (by omega) (by omega) (by omega) (by omega), ciFits_f (t := t) (d := g) (by omega) (by omega) (by omega) (by omega), ciFits_f (t := t) (d := h) (by omega) (by omega) (by omega) (by omega)]
          simp only [Option.bind_some, decide_eq_true_iff]
          have hin := inC_iff ⟨a - t * e, b - t * f, c - t * g, d - t * h⟩
          simp only [bnd] at hin
          by_cases g0 : -10000000 ≤ t * e ∧ t * e ≤ 10000000
          · simp only [if_pos g0]
            by_cases g1 : -10000000 ≤ t * f ∧ t * f ≤ 10000000
            · simp only [if_pos g1]
              by_cases g2 : -10000000 ≤ t * g ∧ t * g ≤ 10000000
              · simp only [if_pos g2]
                by_cases g3 : -10000000 ≤ t * h ∧ t * h ≤ 10000000
                · simp only [if_pos g3]
                  exact Ev.bind eI (Ev.now _)
                · simp only [if_neg g3]
                  rw [if_neg (fun z => by have := hin.1 z; omega)]
                  exact Ev.now _
              · simp only [if_neg g2]
                rw [if_neg (fun z => by have := hin.1 z; omega)]
                exact Ev.now _
            · simp only [if_neg g1]
              rw [if_neg (fun z => by have := hin.1 z; omega)]
              exact Ev.now _
          · simp only [if_neg g0]
            rw [if_neg (fun z => by have := hin.1 z; omega)]
            exact Ev.now _
        obtain ⟨K, hK⟩ := key
        refine Ev.from (K + 1) (fun k hk => ?_)
        obtain ⟨k, rfl⟩ : ∃ m, k = m + 1 := ⟨k - 1, by omega⟩
        have := hK k (by omega)
        simp only [spec_ReflectCircle.j0, Bool.not_true, Bool.false_eq_true, if_false, ciTwice_f, ht, Option.bind_some]
        rw [wrap_id (x := t * e) (by omega) (by omega), wrap_id (x := t * f) (by omega) (by omega), wrap_id (x := t * g) (by omega) (by omega), wrap_id (x := t * h) (by omega) (by omega), wrap_id (x := a - t * e) (by omega) (by omega), wrap_id (x := b - t * f) (by omega) (by omega), wrap_id (x := c - t * g) (by omega) (by omega), wrap_id (x := d - t * h) (by omega) (by omega)]
        exact this
  refine Ev.bind h1 ?_
  rw [h2]
  simp only [Option.bind_some, eqCircle_f, if_true, bne_self_eq_false, Bool.false_eq_true, if_false]
  exact Ev.now _

end Go.Proofs.Ytjnpopipdnaaiaa.Pure
