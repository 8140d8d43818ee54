/- What the functions that the law CountTrees reaches return, and the law; it stands under no condition. -/
import Derived.Test.YtmlkgpoakkgjbaaYCountTreesb
namespace Go.Proofs.Ytmlkgpoakkgjbaa.Gh
open Go Go.RowKit Go.Proofs
set_option linter.unusedVariables false
set_option linter.unusedSimpArgs false
set_option maxHeartbeats 4000000

theorem impl_powerOf_ok {a p : Int} {n : Nat} (ha : 0 ≤ a ∧ a ≤ 2 ^ 31) (hp : 1 < p ∧ p ≤ 2 ^ 31) (hn : n < 2 ^ 40) {G : GH} {K : Value → GH → Prop} (hk : K (.int .i64 (pw a p n)) G) : GC Try.prog 256 [.int .i64 a, .int .i64 n, .int .i64 p] G K := by
  refine c_impl_powerOf_i (by simp) ?_
  simp (maxSteps := 300000) (disch := omega) only [gs, gs2, gs3, ↓reduceIte, Nat.reduceEqDiff, Nat.mul_one, Nat.add_zero, Nat.zero_add, Nat.zero_mul, Int.toNat_natCast, Int.reduceToNat, Nat.reduceMul, Nat.reduceAdd, decide_true, decide_false, Bool.not_true, Bool.not_false, true_and, and_true, List.map_cons, List.map_nil, List.nil_append, List.cons_append, List.append_nil, Option.map_some, Option.bind_some, List.getElem?_cons_zero, List.getElem?_cons_succ, Bool.false_eq_true, not_true_eq_false, not_false_eq_true, List.contains_cons, List.contains_nil, Nat.reduceBEq, Bool.true_or, Bool.false_or, Bool.or_true, List.set_cons_zero, List.set_cons_succ, List.length_cons, List.length_nil, isLd, Bool.true_and, Bool.false_and, Bool.and_true, Bool.and_false]
  refine gLoop_intro (fun m T G' => ∃ (k : Nat) (b acc : Int), T 0 = .int .i64 b ∧ T 1 = .int .i64 k ∧ T 2 = .int .i64 p ∧ T 7 = .int .i64 acc ∧ m = k ∧ k < 2 ^ 40 ∧ G = G' ∧ (0 ≤ b ∧ b ≤ 2 ^ 31) ∧ (0 ≤ acc ∧ acc < p) ∧ acc * pw b p k % p = pw a p n % p)
    n ⟨n, a, 1, by simp (maxSteps := 300000) (disch := omega) only [gs, gs2, gs3, ↓reduceIte, Nat.reduceEqDiff, Nat.mul_one, Nat.add_zero, Nat.zero_add, Nat.zero_mul, Int.toNat_natCast, Int.reduceToNat, Nat.reduceMul, Nat.reduceAdd, decide_true, decide_false, Bool.not_true, Bool.not_false, true_and, and_true, List.map_cons, List.map_nil, List.nil_append, List.cons_append, List.append_nil, Option.map_some, Option.bind_some, List.getElem?_cons_zero, List.getElem?_cons_succ, Bool.false_eq_true, not_true_eq_false, not_false_eq_true, List.contains_cons, List.contains_nil, Nat.reduceBEq, Bool.true_or, Bool.false_or, Bool.or_true, List.set_cons_zero, List.set_cons_succ, List.length_cons, List.length_nil, isLd, Bool.true_and, Bool.false_and, Bool.and_true, Bool.and_false], by simp (maxSteps := 300000) (disch := omega) only [gs, gs2, gs3, ↓reduceIte, Nat.reduceEqDiff, Nat.mul_one, Nat.add_zero, Nat.zero_add, Nat.zero_mul, Int.toNat_natCast, Int.reduceToNat, Nat.reduceMul, Nat.reduceAdd, decide_true, decide_false, Bool.not_true, Bool.not_false, true_and, and_true, List.map_cons, List.map_nil, List.nil_append, List.cons_append, List.append_nil, Option.map_some, Option.bind_some, List.getElem?_cons_zero, List.getElem?_cons_succ, Bool.false_eq_true, not_true_eq_false, not_false_eq_true, List.contains_cons, List.contains_nil, Nat.reduceBEq, Bool.true_or, Bool.false_or, Bool.or_true, List.set_cons_zero, List.set_cons_succ, List.length_cons, List.length_nil, isLd, Bool.true_and, Bool.false_and, Bool.and_true, Bool.and_false], by simp (maxSteps := 300000) (disch := omega) only [gs, gs2, gs3, ↓reduceIte, Nat.reduceEqDiff, Nat.mul_one, Nat.add_zero, Nat.zero_add, Nat.zero_mul, Int.toNat_natCast, Int.reduceToNat, Nat.reduceMul, Nat.reduceAdd, decide_true, decide_false, Bool.not_true, Bool.not_false, true_and, and_true, List.map_cons, List.map_nil, List.nil_append, List.cons_append, List.append_nil, Option.map_some, Option.bind_some, List.getElem?_cons_zero, List.getElem?_cons_succ, Bool.false_eq_true, not_true_eq_false, not_false_eq_true, List.contains_cons, List.contains_nil, Nat.reduceBEq, Bool.true_or, Bool.false_or, Bool.or_true, List.set_cons_zero, List.set_cons_succ, List.length_cons, List.length_nil, isLd, Bool.true_and, Bool.false_and, Bool.and_true, Bool.and_false], by simp (maxSteps := 300000) (disch := omega) only [gs, gs2, gs3, ↓reduceIte, Nat.reduceEqDiff, Nat.mul_one, Nat.add_zero, Nat.zero_add, Nat.zero_mul, Int.toNat_natCast, Int.reduceToNat, Nat.reduceMul, Nat.reduceAdd, decide_true, decide_false, Bool.not_true, Bool.not_false, true_and, and_true, List.map_cons, List.map_nil, List.nil_append, List.cons_append, List.append_nil, Option.map_some, Option.bind_some, List.getElem?_cons_zero, List.getElem?_cons_succ, Bool.false_eq_true, not_true_eq_false, not_false_eq_true, List.contains_cons, List.contains_nil, Nat.reduceBEq, Bool.true_or, Bool.false_or, Bool.or_true, List.set_cons_zero, List.set_cons_succ, List.length_cons, List.length_nil, isLd, Bool.true_and, Bool.false_and, Bool.and_true, Bool.and_false], rfl, hn, rfl, ha, by omega, by rw [Int.one_mul]⟩ ?_
  rintro k T G' ⟨_, b, acc, e0, e1, e2, e7, rfl, hk2, rfl, hb, hacc, he⟩
  simp (maxSteps := 300000) (disch := omega) only [gs, gs2, gs3, ↓reduceIte, Nat.reduceEqDiff, Nat.mul_one, Nat.add_zero, Nat.zero_add, Nat.zero_mul, Int.toNat_natCast, Int.reduceToNat, Nat.reduceMul, Nat.reduceAdd, decide_true, decide_false, Bool.not_true, Bool.not_false, true_and, and_true, List.map_cons, List.map_nil, List.nil_append, List.cons_append, List.append_nil, Option.map_some, Option.bind_some, List.getElem?_cons_zero, List.getElem?_cons_succ, Bool.false_eq_true, not_true_eq_false, not_false_eq_true, List.contains_cons, List.contains_nil, Nat.reduceBEq, Bool.true_or, Bool.false_or, Bool.or_true, List.set_cons_zero, List.set_cons_succ, List.length_cons, List.length_nil, isLd, Bool.true_and, Bool.false_and, Bool.and_true, Bool.and_false, e0, e1, e2, e7]
  have hrem := fun x : Int => bin_rem .i64 x p (by omega)
  have hm1 := mulB (a := acc) (b := b) (A := 2 ^ 31) (B := 2 ^ 31) (by omega) (by omega)
  have hm2 := mulB (a := b) (b := b) (A := 2 ^ 31) (B := 2 ^ 31) (by omega) (by omega)
  have hn1 : 0 ≤ acc * b := Int.mul_nonneg hacc.1 hb.1
  have hn2 : 0 ≤ b * b := Int.mul_nonneg hb.1 hb.1
  have w1 := w64 (acc * b) (by omega) (by omega)
  have w2 := w64 (b * b) (by omega) (by omega)
  have r1 : (acc * b).tmod p = acc * b % p := Int.tmod_eq_emod_of_nonneg hn1
  have r2 : (b * b).tmod p = b * b % p := Int.tmod_eq_emod_of_nonneg hn2
  have q1 := Int.emod_nonneg (acc * b) (show p ≠ 0 by omega)
  have q2 := Int.emod_lt_of_pos (acc * b) (show 0 < p by omega)
  have q3 := Int.emod_nonneg (b * b) (show p ≠ 0 by omega)
  have q4 := Int.emod_lt_of_pos (b * b) (show 0 < p by omega)
  by_cases hk0 : (0 : Int) < k
  · have hh := pw_half acc b p k
    have d2 : ((k : Int)).tdiv 2 = ((k / 2 : Nat) : Int) := by rw [Int.tdiv_eq_ediv_of_nonneg (by omega)]; rfl
    have hq := w64 ((k / 2 : Nat) : Int) (by omega) (by omega)
    have hquo : binV .quo (.int .i64 (k : Int)) (.int .i64 2) = some (.int .i64 ((k / 2 : Nat) : Int)) := by
      rw [bin_quo _ _ _ (by omega), d2, hq]
    have hrem2 : binV .rem (.int .i64 (k : Int)) (.int .i64 2) = some (.int .i64 ((k % 2 : Nat) : Int)) := by
      rw [bin_rem _ _ _ (by omega), Int.tmod_eq_emod_of_nonneg (by omega)]; rfl
    simp (maxSteps := 300000) (disch := omega) only [gs, gs2, gs3, ↓reduceIte, Nat.reduceEqDiff, Nat.mul_one, Nat.add_zero, Nat.zero_add, Nat.zero_mul, Int.toNat_natCast, Int.reduceToNat, Nat.reduceMul, Nat.reduceAdd, decide_true, decide_false, Bool.not_true, Bool.not_false, true_and, and_true, List.map_cons, List.map_nil, List.nil_append, List.cons_append, List.append_nil, Option.map_some, Option.bind_some, List.getElem?_cons_zero, List.getElem?_cons_succ, Bool.false_eq_true, not_true_eq_false, not_false_eq_true, List.contains_cons, List.contains_nil, Nat.reduceBEq, Bool.true_or, Bool.false_or, Bool.or_true, List.set_cons_zero, List.set_cons_succ, List.length_cons, List.length_nil, isLd, Bool.true_and, Bool.false_and, Bool.and_true, Bool.and_false, e0, e1, e2, e7, hk0, hrem2]
    by_cases ho : k % 2 = 1
    · rw [if_pos ho] at hh
      simp (maxSteps := 300000) (disch := omega) only [gs, gs2, gs3, ↓reduceIte, Nat.reduceEqDiff, Nat.mul_one, Nat.add_zero, Nat.zero_add, Nat.zero_mul, Int.toNat_natCast, Int.reduceToNat, Nat.reduceMul, Nat.reduceAdd, decide_true, decide_false, Bool.not_true, Bool.not_false, true_and, and_true, List.map_cons, List.map_nil, List.nil_append, List.cons_append, List.append_nil, Option.map_some, Option.bind_some, List.getElem?_cons_zero, List.getElem?_cons_succ, Bool.false_eq_true, not_true_eq_false, not_false_eq_true, List.contains_cons, List.contains_nil, Nat.reduceBEq, Bool.true_or, Bool.false_or, Bool.or_true, List.set_cons_zero, List.set_cons_succ, List.length_cons, List.length_nil, isLd, Bool.true_and, Bool.false_and, Bool.and_true, Bool.and_false, e0, e1, e2, e7, show (((k % 2 : Nat) : Int) = 1) = True from eq_true (by omega), w1, w2, hrem, r1, r2, hquo]
      exact ⟨k / 2, by omega, G, Sub.refl _, k / 2, b * b % p, acc * b % p, rfl, rfl, rfl, rfl, by omega, rfl, ⟨by omega, by omega⟩, ⟨by omega, by omega⟩, hh.trans he⟩
    · rw [if_neg ho] at hh
      simp (maxSteps := 300000) (disch := omega) only [gs, gs2, gs3, ↓reduceIte, Nat.reduceEqDiff, Nat.mul_one, Nat.add_zero, Nat.zero_add, Nat.zero_mul, Int.toNat_natCast, Int.reduceToNat, Nat.reduceMul, Nat.reduceAdd, decide_true, decide_false, Bool.not_true, Bool.not_false, true_and, and_true, List.map_cons, List.map_nil, List.nil_append, List.cons_append, List.append_nil, Option.map_some, Option.bind_some, List.getElem?_cons_zero, List.getElem?_cons_succ, Bool.false_eq_true, not_true_eq_false, not_false_eq_true, List.contains_cons, List.contains_nil, Nat.reduceBEq, Bool.true_or, Bool.false_or, Bool.or_true, List.set_cons_zero, List.set_cons_succ, List.length_cons, List.length_nil, isLd, Bool.true_and, Bool.false_and, Bool.and_true, Bool.and_false, e0, e1, e2, e7, show (((k % 2 : Nat) : Int) = 1) = False from eq_false (by omega), w1, w2, hrem, r1, r2, hquo]
      exact ⟨k / 2, by omega, G, Sub.refl _, k / 2, b * b % p, acc, rfl, rfl, rfl, rfl, by omega, rfl, ⟨by omega, by omega⟩, ⟨by omega, by omega⟩, hh.trans he⟩
  · simp (maxSteps := 300000) (disch := omega) only [gs, gs2, gs3, ↓reduceIte, Nat.reduceEqDiff, Nat.mul_one, Nat.add_zero, Nat.zero_add, Nat.zero_mul, Int.toNat_natCast, Int.reduceToNat, Nat.reduceMul, Nat.reduceAdd, decide_true, decide_false, Bool.not_true, Bool.not_false, true_and, and_true, List.map_cons, List.map_nil, List.nil_append, List.cons_append, List.append_nil, Option.map_some, Option.bind_some, List.getElem?_cons_zero, List.getElem?_cons_succ, Bool.false_eq_true, not_true_eq_false, not_false_eq_true, List.contains_cons, List.contains_nil, Nat.reduceBEq, Bool.true_or, Bool.false_or, Bool.or_true, List.set_cons_zero, List.set_cons_succ, List.length_cons, List.length_nil, isLd, Bool.true_and, Bool.false_and, Bool.and_true, Bool.and_false, e0, e1, e2, e7, hk0]
    obtain rfl : k = 0 := by omega
    have hr := pw_rng (a := a) (p := p) hp.1 n
    have e : acc = pw a p n := by
      rw [show pw b p 0 = 1 from rfl, Int.mul_one, Int.emod_eq_of_lt hacc.1 hacc.2, Int.emod_eq_of_lt hr.1 hr.2] at he
      exact he
    rw [e]; exact hk
theorem impl_inverseOf_ok {a p : Int} (ha : 0 ≤ a ∧ a ≤ 2 ^ 31) (hp : 1 < p ∧ p ≤ 2 ^ 31) {G : GH} {K : Value → GH → Prop} (hk : K (.int .i64 (invF a p)) G) : GC Try.prog 236 [.int .i64 a, .int .i64 p] G K := by
  refine c_impl_inverseOf_i (by simp) ?_
  simp (maxSteps := 300000) (disch := omega) only [gs, gs2, gs3, ↓reduceIte, Nat.reduceEqDiff, Nat.mul_one, Nat.add_zero, Nat.zero_add, Nat.zero_mul, Int.toNat_natCast, Int.reduceToNat, Nat.reduceMul, Nat.reduceAdd, decide_true, decide_false, Bool.not_true, Bool.not_false, true_and, and_true, List.map_cons, List.map_nil, List.nil_append, List.cons_append, List.append_nil, Option.map_some, Option.bind_some, List.getElem?_cons_zero, List.getElem?_cons_succ, Bool.false_eq_true, not_true_eq_false, not_false_eq_true, List.contains_cons, List.contains_nil, Nat.reduceBEq, Bool.true_or, Bool.false_or, Bool.or_true, List.set_cons_zero, List.set_cons_succ, List.length_cons, List.length_nil, isLd, Bool.true_and, Bool.false_and, Bool.and_true, Bool.and_false]
  have e : p - 2 = ((p - 2).toNat : Int) := by omega
  rw [e]
  refine impl_powerOf_ok ha hp (by omega) ?_
  simp (maxSteps := 300000) (disch := omega) only [gs, gs2, gs3, ↓reduceIte, Nat.reduceEqDiff, Nat.mul_one, Nat.add_zero, Nat.zero_add, Nat.zero_mul, Int.toNat_natCast, Int.reduceToNat, Nat.reduceMul, Nat.reduceAdd, decide_true, decide_false, Bool.not_true, Bool.not_false, true_and, and_true, List.map_cons, List.map_nil, List.nil_append, List.cons_append, List.append_nil, Option.map_some, Option.bind_some, List.getElem?_cons_zero, List.getElem?_cons_succ, Bool.false_eq_true, not_true_eq_false, not_false_eq_true, List.contains_cons, List.contains_nil, Nat.reduceBEq, Bool.true_or, Bool.false_or, Bool.or_true, List.set_cons_zero, List.set_cons_succ, List.length_cons, List.length_nil, isLd, Bool.true_and, Bool.false_and, Bool.and_true, Bool.and_false]
  exact hk
theorem impl_addTimes_ok {G : GH} {A B : Option Addr} {ca cb C : Nat} {f g : Int → Int} {k p : Int} (h : IntS G A ca (rowL C f)) (h' : IntS G B cb (rowL C g)) (hp : 1 < p ∧ p ≤ 2 ^ 30) (hk0 : 0 ≤ k ∧ k ≤ p) (hf : ∀ j : Nat, j < C → 0 ≤ f j ∧ f j < p) (hg : ∀ j : Nat, j < C → 0 ≤ g j ∧ g j < p) (hC : C < 2 ^ 20) {K : Value → GH → Prop}
    (hk : ∀ G' A' c', New G G' A' c' ((rowL C fun j => (f j + k * g j) % p).map I64) 1 C → K (.slice A' C c') G') : GC Try.prog 255 [.slice A C ca, .slice B C cb, .int .i64 k, .int .i64 p] G K := by
  refine c_impl_addTimes_i (by simp) ?_
  simp (maxSteps := 300000) (disch := omega) only [gs, gs2, gs3, ↓reduceIte, Nat.reduceEqDiff, Nat.mul_one, Nat.add_zero, Nat.zero_add, Nat.zero_mul, Int.toNat_natCast, Int.reduceToNat, Nat.reduceMul, Nat.reduceAdd, decide_true, decide_false, Bool.not_true, Bool.not_false, true_and, and_true, List.map_cons, List.map_nil, List.nil_append, List.cons_append, List.append_nil, Option.map_some, Option.bind_some, List.getElem?_cons_zero, List.getElem?_cons_succ, Bool.false_eq_true, not_true_eq_false, not_false_eq_true, List.contains_cons, List.contains_nil, Nat.reduceBEq, Bool.true_or, Bool.false_or, Bool.or_true, List.set_cons_zero, List.set_cons_succ, List.length_cons, List.length_nil, isLd, Bool.true_and, Bool.false_and, Bool.and_true, Bool.and_false]
  refine gLoop_intro (fun m T G' => ∃ (j : Nat) (As : Option Addr) (cs : Nat), T 0 = .slice A C ca ∧ T 1 = .slice B C cb ∧ T 2 = .int .i64 k ∧ T 3 = .int .i64 p ∧ T 9 = .slice As j cs ∧ T 12 = .int .i64 C ∧ T 13 = .int .i64 j ∧ m + j = C ∧ j ≤ C ∧ New G G' As cs ((rowL j fun j => (f j + k * g j) % p).map I64) 1 j)
    C ⟨0, none, 0, by simp (maxSteps := 300000) (disch := omega) only [gs, gs2, gs3, ↓reduceIte, Nat.reduceEqDiff, Nat.mul_one, Nat.add_zero, Nat.zero_add, Nat.zero_mul, Int.toNat_natCast, Int.reduceToNat, Nat.reduceMul, Nat.reduceAdd, decide_true, decide_false, Bool.not_true, Bool.not_false, true_and, and_true, List.map_cons, List.map_nil, List.nil_append, List.cons_append, List.append_nil, Option.map_some, Option.bind_some, List.getElem?_cons_zero, List.getElem?_cons_succ, Bool.false_eq_true, not_true_eq_false, not_false_eq_true, List.contains_cons, List.contains_nil, Nat.reduceBEq, Bool.true_or, Bool.false_or, Bool.or_true, List.set_cons_zero, List.set_cons_succ, List.length_cons, List.length_nil, isLd, Bool.true_and, Bool.false_and, Bool.and_true, Bool.and_false], by simp (maxSteps := 300000) (disch := omega) only [gs, gs2, gs3, ↓reduceIte, Nat.reduceEqDiff, Nat.mul_one, Nat.add_zero, Nat.zero_add, Nat.zero_mul, Int.toNat_natCast, Int.reduceToNat, Nat.reduceMul, Nat.reduceAdd, decide_true, decide_false, Bool.not_true, Bool.not_false, true_and, and_true, List.map_cons, List.map_nil, List.nil_append, List.cons_append, List.append_nil, Option.map_some, Option.bind_some, List.getElem?_cons_zero, List.getElem?_cons_succ, Bool.false_eq_true, not_true_eq_false, not_false_eq_true, List.contains_cons, List.contains_nil, Nat.reduceBEq, Bool.true_or, Bool.false_or, Bool.or_true, List.set_cons_zero, List.set_cons_succ, List.length_cons, List.length_nil, isLd, Bool.true_and, Bool.false_and, Bool.and_true, Bool.and_false], by simp (maxSteps := 300000) (disch := omega) only [gs, gs2, gs3, ↓reduceIte, Nat.reduceEqDiff, Nat.mul_one, Nat.add_zero, Nat.zero_add, Nat.zero_mul, Int.toNat_natCast, Int.reduceToNat, Nat.reduceMul, Nat.reduceAdd, decide_true, decide_false, Bool.not_true, Bool.not_false, true_and, and_true, List.map_cons, List.map_nil, List.nil_append, List.cons_append, List.append_nil, Option.map_some, Option.bind_some, List.getElem?_cons_zero, List.getElem?_cons_succ, Bool.false_eq_true, not_true_eq_false, not_false_eq_true, List.contains_cons, List.contains_nil, Nat.reduceBEq, Bool.true_or, Bool.false_or, Bool.or_true, List.set_cons_zero, List.set_cons_succ, List.length_cons, List.length_nil, isLd, Bool.true_and, Bool.false_and, Bool.and_true, Bool.and_false], by simp (maxSteps := 300000) (disch := omega) only [gs, gs2, gs3, ↓reduceIte, Nat.reduceEqDiff, Nat.mul_one, Nat.add_zero, Nat.zero_add, Nat.zero_mul, Int.toNat_natCast, Int.reduceToNat, Nat.reduceMul, Nat.reduceAdd, decide_true, decide_false, Bool.not_true, Bool.not_false, true_and, and_true, List.map_cons, List.map_nil, List.nil_append, List.cons_append, List.append_nil, Option.map_some, Option.bind_some, List.getElem?_cons_zero, List.getElem?_cons_succ, Bool.false_eq_true, not_true_eq_false, not_false_eq_true, List.contains_cons, List.contains_nil, Nat.reduceBEq, Bool.true_or, Bool.false_or, Bool.or_true, List.set_cons_zero, List.set_cons_succ, List.length_cons, List.length_nil, isLd, Bool.true_and, Bool.false_and, Bool.and_true, Bool.and_false], by simp (maxSteps := 300000) (disch := omega) only [gs, gs2, gs3, ↓reduceIte, Nat.reduceEqDiff, Nat.mul_one, Nat.add_zero, Nat.zero_add, Nat.zero_mul, Int.toNat_natCast, Int.reduceToNat, Nat.reduceMul, Nat.reduceAdd, decide_true, decide_false, Bool.not_true, Bool.not_false, true_and, and_true, List.map_cons, List.map_nil, List.nil_append, List.cons_append, List.append_nil, Option.map_some, Option.bind_some, List.getElem?_cons_zero, List.getElem?_cons_succ, Bool.false_eq_true, not_true_eq_false, not_false_eq_true, List.contains_cons, List.contains_nil, Nat.reduceBEq, Bool.true_or, Bool.false_or, Bool.or_true, List.set_cons_zero, List.set_cons_succ, List.length_cons, List.length_nil, isLd, Bool.true_and, Bool.false_and, Bool.and_true, Bool.and_false], by simp (maxSteps := 300000) (disch := omega) only [gs, gs2, gs3, ↓reduceIte, Nat.reduceEqDiff, Nat.mul_one, Nat.add_zero, Nat.zero_add, Nat.zero_mul, Int.toNat_natCast, Int.reduceToNat, Nat.reduceMul, Nat.reduceAdd, decide_true, decide_false, Bool.not_true, Bool.not_false, true_and, and_true, List.map_cons, List.map_nil, List.nil_append, List.cons_append, List.append_nil, Option.map_some, Option.bind_some, List.getElem?_cons_zero, List.getElem?_cons_succ, Bool.false_eq_true, not_true_eq_false, not_false_eq_true, List.contains_cons, List.contains_nil, Nat.reduceBEq, Bool.true_or, Bool.false_or, Bool.or_true, List.set_cons_zero, List.set_cons_succ, List.length_cons, List.length_nil, isLd, Bool.true_and, Bool.false_and, Bool.and_true, Bool.and_false], by simp (maxSteps := 300000) (disch := omega) only [gs, gs2, gs3, ↓reduceIte, Nat.reduceEqDiff, Nat.mul_one, Nat.add_zero, Nat.zero_add, Nat.zero_mul, Int.toNat_natCast, Int.reduceToNat, Nat.reduceMul, Nat.reduceAdd, decide_true, decide_false, Bool.not_true, Bool.not_false, true_and, and_true, List.map_cons, List.map_nil, List.nil_append, List.cons_append, List.append_nil, Option.map_some, Option.bind_some, List.getElem?_cons_zero, List.getElem?_cons_succ, Bool.false_eq_true, not_true_eq_false, not_false_eq_true, List.contains_cons, List.contains_nil, Nat.reduceBEq, Bool.true_or, Bool.false_or, Bool.or_true, List.set_cons_zero, List.set_cons_succ, List.length_cons, List.length_nil, isLd, Bool.true_and, Bool.false_and, Bool.and_true, Bool.and_false] <;> rfl, by omega, by omega, New.nil _ _⟩ ?_
  rintro m T G' ⟨j, As, cs, e0, e1, e2, e3, e9, e12, e13, hm, hj, hN⟩
  simp (maxSteps := 300000) (disch := omega) only [gs, gs2, gs3, ↓reduceIte, Nat.reduceEqDiff, Nat.mul_one, Nat.add_zero, Nat.zero_add, Nat.zero_mul, Int.toNat_natCast, Int.reduceToNat, Nat.reduceMul, Nat.reduceAdd, decide_true, decide_false, Bool.not_true, Bool.not_false, true_and, and_true, List.map_cons, List.map_nil, List.nil_append, List.cons_append, List.append_nil, Option.map_some, Option.bind_some, List.getElem?_cons_zero, List.getElem?_cons_succ, Bool.false_eq_true, not_true_eq_false, not_false_eq_true, List.contains_cons, List.contains_nil, Nat.reduceBEq, Bool.true_or, Bool.false_or, Bool.or_true, List.set_cons_zero, List.set_cons_succ, List.length_cons, List.length_nil, isLd, Bool.true_and, Bool.false_and, Bool.and_true, Bool.and_false, e0, e1, e2, e3, e9, e12, e13]
  by_cases hjj : (j : Int) < C
  · have r1 := (h.sub hN.sub).rd j (by rw [rowL_len]; omega)
    have r2 := (h'.sub hN.sub).rd j (by rw [rowL_len]; omega)
    have sA := h.sn (by rw [rowL_len]; omega)
    have sB := h'.sn (by rw [rowL_len]; omega)
    rw [rowL_get _ (by omega)] at r1 r2
    have b1 := hf j (by omega)
    have b2 := hg j (by omega)
    have hmm := mulB (a := k) (b := g j) (A := 2 ^ 30) (B := 2 ^ 30) (by omega) (by omega)
    have hnn : 0 ≤ k * g j := Int.mul_nonneg hk0.1 b2.1
    have w1 := w64 (k * g j) (by omega) (by omega)
    have w2 := w64 (f j + k * g j) (by omega) (by omega)
    have hr : (f j + k * g j).tmod p = (f j + k * g j) % p := Int.tmod_eq_emod_of_nonneg (by omega)
    have q1 := Int.emod_nonneg (f j + k * g j) (show p ≠ 0 by omega)
    have hrem := fun x : Int => bin_rem .i64 x p (by omega)
    simp (maxSteps := 300000) (disch := omega) only [gs, gs2, gs3, ↓reduceIte, Nat.reduceEqDiff, Nat.mul_one, Nat.add_zero, Nat.zero_add, Nat.zero_mul, Int.toNat_natCast, Int.reduceToNat, Nat.reduceMul, Nat.reduceAdd, decide_true, decide_false, Bool.not_true, Bool.not_false, true_and, and_true, List.map_cons, List.map_nil, List.nil_append, List.cons_append, List.append_nil, Option.map_some, Option.bind_some, List.getElem?_cons_zero, List.getElem?_cons_succ, Bool.false_eq_true, not_true_eq_false, not_false_eq_true, List.contains_cons, List.contains_nil, Nat.reduceBEq, Bool.true_or, Bool.false_or, Bool.or_true, List.set_cons_zero, List.set_cons_succ, List.length_cons, List.length_nil, isLd, Bool.true_and, Bool.false_and, Bool.and_true, Bool.and_false, e0, e1, e2, e3, e9, e12, e13, hjj, r1, r2, w1, w2, hrem, hr, gBs]
    refine ⟨by intro v hv; simp at hv; subst hv; rfl, fun b hb => ?_⟩
    refine ⟨⟨rd_sub (Sub.put hb _) r2, rd_sub (Sub.put hb _) r1⟩, ?_⟩
    refine ap_new hN (Sub.put hb _) (cells_one [.int .i64 ((f j + k * g j) % p)] true) (by rfl) (by intro v hv; simp at hv; subst hv; rfl) rfl (by omega) (by omega) (by omega) fun G'' A' c' hN' => ?_
    simp (maxSteps := 300000) (disch := omega) only [gs, gs2, gs3, ↓reduceIte, Nat.reduceEqDiff, Nat.mul_one, Nat.add_zero, Nat.zero_add, Nat.zero_mul, Int.toNat_natCast, Int.reduceToNat, Nat.reduceMul, Nat.reduceAdd, decide_true, decide_false, Bool.not_true, Bool.not_false, true_and, and_true, List.map_cons, List.map_nil, List.nil_append, List.cons_append, List.append_nil, Option.map_some, Option.bind_some, List.getElem?_cons_zero, List.getElem?_cons_succ, Bool.false_eq_true, not_true_eq_false, not_false_eq_true, List.contains_cons, List.contains_nil, Nat.reduceBEq, Bool.true_or, Bool.false_or, Bool.or_true, List.set_cons_zero, List.set_cons_succ, List.length_cons, List.length_nil, isLd, Bool.true_and, Bool.false_and, Bool.and_true, Bool.and_false, e0, e1, e2, e3, e9, e12, e13]
    have r1' := (h.sub hN'.sub).rd j (by rw [rowL_len]; omega)
    have r2' := (h'.sub hN'.sub).rd j (by rw [rowL_len]; omega)
    rw [rowL_get _ (by omega)] at r1' r2'
    exact ⟨⟨r2', r1'⟩, m - 1, by omega, _, Sub.refl _, j + 1, A', c', rfl, rfl, by omega, by omega, hN'.cast (by rw [rowL_succ]; simp [I64]) rfl⟩
  · simp (maxSteps := 300000) (disch := omega) only [gs, gs2, gs3, ↓reduceIte, Nat.reduceEqDiff, Nat.mul_one, Nat.add_zero, Nat.zero_add, Nat.zero_mul, Int.toNat_natCast, Int.reduceToNat, Nat.reduceMul, Nat.reduceAdd, decide_true, decide_false, Bool.not_true, Bool.not_false, true_and, and_true, List.map_cons, List.map_nil, List.nil_append, List.cons_append, List.append_nil, Option.map_some, Option.bind_some, List.getElem?_cons_zero, List.getElem?_cons_succ, Bool.false_eq_true, not_true_eq_false, not_false_eq_true, List.contains_cons, List.contains_nil, Nat.reduceBEq, Bool.true_or, Bool.false_or, Bool.or_true, List.set_cons_zero, List.set_cons_succ, List.length_cons, List.length_nil, isLd, Bool.true_and, Bool.false_and, Bool.and_true, Bool.and_false, e0, e1, e2, e3, e9, e12, e13, hjj]
    obtain rfl : j = C := by omega
    exact hk _ _ _ hN
theorem slices_IndexFuncS_ok {H G : GH} {b : Nat} {A : Nat → Option Addr} {c : Nat → Nat} {R C : Nat} {f : Int → Int → Int} {rest : List Value} {Z : Option Addr} {F : Value} {Y : Option Addr} {t d : Nat} {col : Int} (h : Rw H G b A c R C f rest Z) (hY : t < R → Y = some ⟨b, t, none⟩) (ht : t ≤ R) (hR : R < 2 ^ 20)
    (hF : ∀ i, i < R → ∀ K : Value → GH → Prop, K (.bool (decide (f i col ≠ 0))) G → gCl Try.prog F [.slice (A i) C (c i)] G K) {K : Value → GH → Prop}
    (h0 : (∀ j : Nat, t ≤ j → j < R → f j col = 0) → K (.int .i64 (-1)) G) (h1 : ∀ i : Nat, t ≤ i → i < R → f i col ≠ 0 → (∀ j : Nat, t ≤ j → j < i → f j col = 0) → K (.int .i64 ((i - t : Nat) : Int)) G) :
    GC Try.prog 253 [.slice Y (R - t) d, F] G K := by
  refine c_slices_IndexFunc_SS_int64_int64_i (by simp) ?_
  simp (maxSteps := 300000) (disch := omega) only [gs, gs2, gs3, ↓reduceIte, Nat.reduceEqDiff, Nat.mul_one, Nat.add_zero, Nat.zero_add, Nat.zero_mul, Int.toNat_natCast, Int.reduceToNat, Nat.reduceMul, Nat.reduceAdd, decide_true, decide_false, Bool.not_true, Bool.not_false, true_and, and_true, List.map_cons, List.map_nil, List.nil_append, List.cons_append, List.append_nil, Option.map_some, Option.bind_some, List.getElem?_cons_zero, List.getElem?_cons_succ, Bool.false_eq_true, not_true_eq_false, not_false_eq_true, List.contains_cons, List.contains_nil, Nat.reduceBEq, Bool.true_or, Bool.false_or, Bool.or_true, List.set_cons_zero, List.set_cons_succ, List.length_cons, List.length_nil, isLd, Bool.true_and, Bool.false_and, Bool.and_true, Bool.and_false]
  refine gLoop_intro (fun m T G' => ∃ k : Nat, T 0 = .slice Y (R - t) d ∧ T 1 = F ∧ T 7 = .int .i64 ((R - t : Nat) : Int) ∧ T 8 = .int .i64 k ∧ m + k = R - t ∧ k ≤ R - t ∧ G = G' ∧ ∀ j : Nat, t ≤ j → j < t + k → f j col = 0)
    (R - t) ⟨0, by simp (maxSteps := 300000) (disch := omega) only [gs, gs2, gs3, ↓reduceIte, Nat.reduceEqDiff, Nat.mul_one, Nat.add_zero, Nat.zero_add, Nat.zero_mul, Int.toNat_natCast, Int.reduceToNat, Nat.reduceMul, Nat.reduceAdd, decide_true, decide_false, Bool.not_true, Bool.not_false, true_and, and_true, List.map_cons, List.map_nil, List.nil_append, List.cons_append, List.append_nil, Option.map_some, Option.bind_some, List.getElem?_cons_zero, List.getElem?_cons_succ, Bool.false_eq_true, not_true_eq_false, not_false_eq_true, List.contains_cons, List.contains_nil, Nat.reduceBEq, Bool.true_or, Bool.false_or, Bool.or_true, List.set_cons_zero, List.set_cons_succ, List.length_cons, List.length_nil, isLd, Bool.true_and, Bool.false_and, Bool.and_true, Bool.and_false], by simp (maxSteps := 300000) (disch := omega) only [gs, gs2, gs3, ↓reduceIte, Nat.reduceEqDiff, Nat.mul_one, Nat.add_zero, Nat.zero_add, Nat.zero_mul, Int.toNat_natCast, Int.reduceToNat, Nat.reduceMul, Nat.reduceAdd, decide_true, decide_false, Bool.not_true, Bool.not_false, true_and, and_true, List.map_cons, List.map_nil, List.nil_append, List.cons_append, List.append_nil, Option.map_some, Option.bind_some, List.getElem?_cons_zero, List.getElem?_cons_succ, Bool.false_eq_true, not_true_eq_false, not_false_eq_true, List.contains_cons, List.contains_nil, Nat.reduceBEq, Bool.true_or, Bool.false_or, Bool.or_true, List.set_cons_zero, List.set_cons_succ, List.length_cons, List.length_nil, isLd, Bool.true_and, Bool.false_and, Bool.and_true, Bool.and_false], by simp (maxSteps := 300000) (disch := omega) only [gs, gs2, gs3, ↓reduceIte, Nat.reduceEqDiff, Nat.mul_one, Nat.add_zero, Nat.zero_add, Nat.zero_mul, Int.toNat_natCast, Int.reduceToNat, Nat.reduceMul, Nat.reduceAdd, decide_true, decide_false, Bool.not_true, Bool.not_false, true_and, and_true, List.map_cons, List.map_nil, List.nil_append, List.cons_append, List.append_nil, Option.map_some, Option.bind_some, List.getElem?_cons_zero, List.getElem?_cons_succ, Bool.false_eq_true, not_true_eq_false, not_false_eq_true, List.contains_cons, List.contains_nil, Nat.reduceBEq, Bool.true_or, Bool.false_or, Bool.or_true, List.set_cons_zero, List.set_cons_succ, List.length_cons, List.length_nil, isLd, Bool.true_and, Bool.false_and, Bool.and_true, Bool.and_false], by simp (maxSteps := 300000) (disch := omega) only [gs, gs2, gs3, ↓reduceIte, Nat.reduceEqDiff, Nat.mul_one, Nat.add_zero, Nat.zero_add, Nat.zero_mul, Int.toNat_natCast, Int.reduceToNat, Nat.reduceMul, Nat.reduceAdd, decide_true, decide_false, Bool.not_true, Bool.not_false, true_and, and_true, List.map_cons, List.map_nil, List.nil_append, List.cons_append, List.append_nil, Option.map_some, Option.bind_some, List.getElem?_cons_zero, List.getElem?_cons_succ, Bool.false_eq_true, not_true_eq_false, not_false_eq_true, List.contains_cons, List.contains_nil, Nat.reduceBEq, Bool.true_or, Bool.false_or, Bool.or_true, List.set_cons_zero, List.set_cons_succ, List.length_cons, List.length_nil, isLd, Bool.true_and, Bool.false_and, Bool.and_true, Bool.and_false] <;> rfl, by omega, by omega, rfl, fun j h1 h2 => by omega⟩ ?_
  rintro m T G' ⟨k, e0, e1, e7, e8, hm, hk, rfl, hz⟩
  simp (maxSteps := 300000) (disch := omega) only [gs, gs2, gs3, ↓reduceIte, Nat.reduceEqDiff, Nat.mul_one, Nat.add_zero, Nat.zero_add, Nat.zero_mul, Int.toNat_natCast, Int.reduceToNat, Nat.reduceMul, Nat.reduceAdd, decide_true, decide_false, Bool.not_true, Bool.not_false, true_and, and_true, List.map_cons, List.map_nil, List.nil_append, List.cons_append, List.append_nil, Option.map_some, Option.bind_some, List.getElem?_cons_zero, List.getElem?_cons_succ, Bool.false_eq_true, not_true_eq_false, not_false_eq_true, List.contains_cons, List.contains_nil, Nat.reduceBEq, Bool.true_or, Bool.false_or, Bool.or_true, List.set_cons_zero, List.set_cons_succ, List.length_cons, List.length_nil, isLd, Bool.true_and, Bool.false_and, Bool.and_true, Bool.and_false, e0, e1, e7, e8]
  by_cases hkk : (k : Int) < ((R - t : Nat) : Int)
  · have hr := h.get (i := t + k) (by omega)
    rw [hY (by omega)] at e0
    simp (maxSteps := 300000) (disch := omega) only [gs, gs2, gs3, ↓reduceIte, Nat.reduceEqDiff, Nat.mul_one, Nat.add_zero, Nat.zero_add, Nat.zero_mul, Int.toNat_natCast, Int.reduceToNat, Nat.reduceMul, Nat.reduceAdd, decide_true, decide_false, Bool.not_true, Bool.not_false, true_and, and_true, List.map_cons, List.map_nil, List.nil_append, List.cons_append, List.append_nil, Option.map_some, Option.bind_some, List.getElem?_cons_zero, List.getElem?_cons_succ, Bool.false_eq_true, not_true_eq_false, not_false_eq_true, List.contains_cons, List.contains_nil, Nat.reduceBEq, Bool.true_or, Bool.false_or, Bool.or_true, List.set_cons_zero, List.set_cons_succ, List.length_cons, List.length_nil, isLd, Bool.true_and, Bool.false_and, Bool.and_true, Bool.and_false, e0, e1, e7, e8, hkk, hr]
    refine hF (t + k) (by omega) _ ?_
    by_cases g : f ((t + k : Nat) : Int) col = 0
    · rw [decide_eq_false (fun x => x g)]
      simp (maxSteps := 300000) (disch := omega) only [gs, gs2, gs3, ↓reduceIte, Nat.reduceEqDiff, Nat.mul_one, Nat.add_zero, Nat.zero_add, Nat.zero_mul, Int.toNat_natCast, Int.reduceToNat, Nat.reduceMul, Nat.reduceAdd, decide_true, decide_false, Bool.not_true, Bool.not_false, true_and, and_true, List.map_cons, List.map_nil, List.nil_append, List.cons_append, List.append_nil, Option.map_some, Option.bind_some, List.getElem?_cons_zero, List.getElem?_cons_succ, Bool.false_eq_true, not_true_eq_false, not_false_eq_true, List.contains_cons, List.contains_nil, Nat.reduceBEq, Bool.true_or, Bool.false_or, Bool.or_true, List.set_cons_zero, List.set_cons_succ, List.length_cons, List.length_nil, isLd, Bool.true_and, Bool.false_and, Bool.and_true, Bool.and_false, e0, e1, e7, e8]
      exact ⟨m - 1, by omega, G, Sub.refl _, k + 1, by rw [hY (by omega)], rfl, by omega, by omega, rfl, fun j a1 a2 => by
        by_cases e : j = t + k
        · rw [e]; exact g
        · exact hz j a1 (by omega)⟩
    · rw [decide_eq_true g]
      simp (maxSteps := 300000) (disch := omega) only [gs, gs2, gs3, ↓reduceIte, Nat.reduceEqDiff, Nat.mul_one, Nat.add_zero, Nat.zero_add, Nat.zero_mul, Int.toNat_natCast, Int.reduceToNat, Nat.reduceMul, Nat.reduceAdd, decide_true, decide_false, Bool.not_true, Bool.not_false, true_and, and_true, List.map_cons, List.map_nil, List.nil_append, List.cons_append, List.append_nil, Option.map_some, Option.bind_some, List.getElem?_cons_zero, List.getElem?_cons_succ, Bool.false_eq_true, not_true_eq_false, not_false_eq_true, List.contains_cons, List.contains_nil, Nat.reduceBEq, Bool.true_or, Bool.false_or, Bool.or_true, List.set_cons_zero, List.set_cons_succ, List.length_cons, List.length_nil, isLd, Bool.true_and, Bool.false_and, Bool.and_true, Bool.and_false, e0, e1, e7, e8]
      have := h1 (t + k) (by omega) (by omega) g (fun j a1 a2 => hz j a1 a2)
      rwa [show t + k - t = k by omega] at this
  · simp (maxSteps := 300000) (disch := omega) only [gs, gs2, gs3, ↓reduceIte, Nat.reduceEqDiff, Nat.mul_one, Nat.add_zero, Nat.zero_add, Nat.zero_mul, Int.toNat_natCast, Int.reduceToNat, Nat.reduceMul, Nat.reduceAdd, decide_true, decide_false, Bool.not_true, Bool.not_false, true_and, and_true, List.map_cons, List.map_nil, List.nil_append, List.cons_append, List.append_nil, Option.map_some, Option.bind_some, List.getElem?_cons_zero, List.getElem?_cons_succ, Bool.false_eq_true, not_true_eq_false, not_false_eq_true, List.contains_cons, List.contains_nil, Nat.reduceBEq, Bool.true_or, Bool.false_or, Bool.or_true, List.set_cons_zero, List.set_cons_succ, List.length_cons, List.length_nil, isLd, Bool.true_and, Bool.false_and, Bool.and_true, Bool.and_false, e0, e1, e7, e8, hkk]
    exact h0 fun j a1 a2 => hz j a1 (by omega)
theorem setr_scl (f : Int → Int → Int) (t k p : Int) : scl f t k p = setr f t (fun j => (f t j * k) % p) := by
  funext i j; unfold scl setr; by_cases h : i = t
  · rw [if_pos h, if_pos h]
  · rw [if_neg h, if_neg h]
theorem sl_top {b R t cp : Nat} (ht : t ≤ R) (hR : R ≤ cp) : slV 1 (.slice (some ⟨b, 0, none⟩) R cp) (some (.int .i64 (t : Int))) none = some (if cp = t then .slice (some ⟨b, 0, none⟩) (R - t) (cp - t) else .slice (some ⟨b, t, none⟩) (R - t) (cp - t)) := by
  simp only [slV, onSl, bndV, onInt, Option.bind_some]
  rw [if_pos ⟨by omega, by omega⟩]
  simp only [Option.bind_some, Int.toNat_natCast]
  rw [if_pos ht]
  split <;> simp [pa_mk]
/-- some temporaries are as they were. -/
def SameE (T' T : Nat → Value) : Prop := ∀ t, t = 0 ∨ t = 1 ∨ t = 2 ∨ t = 8 ∨ t = 9 ∨ t = 10 ∨ t = 11 ∨ t = 16 ∨ t = 17 → T' t = T t
theorem SameE.upd {T' T : Nat → Value} (h : SameE T' T) {n : Nat} (v : Value) (hn : 17 < n ∨ n = 12 ∨ n = 13 ∨ n = 14 ∨ n = 15) : SameE (Gh.upd T' n v) T := fun t ht => by
  rw [upd_app, if_neg (by omega)]; exact h t ht
/-- the first rows are cleared. -/
def clrN (f : Int → Int → Int) (t k p : Int) (i : Nat) : Int → Int → Int := fun a => if a < i then clr f t k p a else f a
theorem clrN_t (f : Int → Int → Int) (t k p : Int) (i : Nat) : clrN f t k p i t = f t := by
  unfold clrN; split
  · funext j; unfold clr; rw [if_pos rfl]
  · rfl
theorem el_l0 {D G : GH} {b b10 cp t k : Nat} {A : Nat → Option Addr} {c : Nat → Nat} {R C : Nat} {h : Int → Int → Int} {rest : List Value} {Z : Option Addr} {p : Int} {T : Nat → Value} {Q : Cont} (hw : Rw D G b A c R C h rest Z) (hbz : ∀ a, Z = some a → a.block ≠ b) (hZ : ∀ a, Z = some a → ∃ e, D a.block = some e) (hR : R < 2 ^ 10) (hC : C < 2 ^ 10) (hr : Rng h p) (hp : 1 < p ∧ p ≤ 2 ^ 30)
    (ht : t < R) (hk : k < C) (k10 : rd D (some ⟨b10, 0, none⟩) = some (.int .i64 (k : Int)))
    (e0 : T 0 = .slice (some ⟨b, 0, none⟩) R cp) (e2 : T 2 = .int .i64 p) (e10 : T 10 = .pointer (some ⟨b10, 0, none⟩)) (e11 : T 11 = .int .i64 t) (e79 : T 79 = .slice (some ⟨b, 0, none⟩) R cp) (e80 : T 80 = .int .i64 R) (e81 : T 81 = .int .i64 0)
    (hQ : ∀ T' G' A' c', SameE T' T → Rw D G' b A' c' R C (clr h t k p) rest Z → Q (.ex 2) T' G') : gLoop (gW Try.prog c_impl_eliminate_l0) Q T G := by
  refine gLoop_intro (fun m T' G' => ∃ (i : Nat) (A' : Nat → Option Addr) (c' : Nat → Nat), T' 79 = .slice (some ⟨b, 0, none⟩) R cp ∧ T' 80 = .int .i64 R ∧ T' 81 = .int .i64 i ∧ m + i = R ∧ i ≤ R ∧ Rw D G' b A' c' R C (clrN h t k p i) rest Z ∧ SameE T' T)
    R ⟨0, A, c, e79, e80, e81, by omega, by omega, hw.cong fun i j hi hj => by unfold clrN; rw [if_neg (by omega)], fun _ _ => rfl⟩ ?_
  clear e79 e80 e81 hw
  rintro m T' G' ⟨i, A', c', e79, e80, e81, hm, hi, hw, hT⟩
  have e0 : T' 0 = .slice (some ⟨b, 0, none⟩) R cp := (hT 0 (by omega)).trans e0
  have e2 : T' 2 = .int .i64 p := (hT 2 (by omega)).trans e2
  have e10 : T' 10 = .pointer (some ⟨b10, 0, none⟩) := (hT 10 (by omega)).trans e10
  have e11 : T' 11 = .int .i64 t := (hT 11 (by omega)).trans e11
  have q10 := rd_sub hw.sub k10
  simp (maxSteps := 300000) (disch := omega) only [gs, gs2, gs3, ↓reduceIte, Nat.reduceEqDiff, Nat.mul_one, Nat.add_zero, Nat.zero_add, Nat.zero_mul, Int.toNat_natCast, Int.reduceToNat, Nat.reduceMul, Nat.reduceAdd, decide_true, decide_false, Bool.not_true, Bool.not_false, true_and, and_true, List.map_cons, List.map_nil, List.nil_append, List.cons_append, List.append_nil, Option.map_some, Option.bind_some, List.getElem?_cons_zero, List.getElem?_cons_succ, Bool.false_eq_true, not_true_eq_false, not_false_eq_true, List.contains_cons, List.contains_nil, Nat.reduceBEq, Bool.true_or, Bool.false_or, Bool.or_true, List.set_cons_zero, List.set_cons_succ, List.length_cons, List.length_nil, isLd, Bool.true_and, Bool.false_and, Bool.and_true, Bool.and_false, e0, e2, e10, e11, e79, e80, e81]
  by_cases hii : (i : Int) < R
  rotate_left
  · simp (maxSteps := 300000) (disch := omega) only [gs, gs2, gs3, ↓reduceIte, Nat.reduceEqDiff, Nat.mul_one, Nat.add_zero, Nat.zero_add, Nat.zero_mul, Int.toNat_natCast, Int.reduceToNat, Nat.reduceMul, Nat.reduceAdd, decide_true, decide_false, Bool.not_true, Bool.not_false, true_and, and_true, List.map_cons, List.map_nil, List.nil_append, List.cons_append, List.append_nil, Option.map_some, Option.bind_some, List.getElem?_cons_zero, List.getElem?_cons_succ, Bool.false_eq_true, not_true_eq_false, not_false_eq_true, List.contains_cons, List.contains_nil, Nat.reduceBEq, Bool.true_or, Bool.false_or, Bool.or_true, List.set_cons_zero, List.set_cons_succ, List.length_cons, List.length_nil, isLd, Bool.true_and, Bool.false_and, Bool.and_true, Bool.and_false, e0, e2, e10, e11, e79, e80, e81, hii]
    refine hQ _ _ A' c' ?_ (hw.cong fun a j ha hj => by unfold clrN; rw [if_pos (by omega)])
    repeat (first | exact hT | refine SameE.upd ?_ _ (by omega))
  have hgi := hw.get (i := i) (by omega)
  have hgt := hw.get ht
  have hci := hw.cell (i := i) (by omega) hk
  have hri : clrN h t k p i i = h i := by unfold clrN; rw [if_neg (by omega)]
  rw [hri] at hci
  have hsi := hw.sn (i := i) (by omega) (by omega)
  have hst := hw.sn ht (by omega)
  have hbi := hr i k
  simp (maxSteps := 300000) (disch := omega) only [gs, gs2, gs3, ↓reduceIte, Nat.reduceEqDiff, Nat.mul_one, Nat.add_zero, Nat.zero_add, Nat.zero_mul, Int.toNat_natCast, Int.reduceToNat, Nat.reduceMul, Nat.reduceAdd, decide_true, decide_false, Bool.not_true, Bool.not_false, true_and, and_true, List.map_cons, List.map_nil, List.nil_append, List.cons_append, List.append_nil, Option.map_some, Option.bind_some, List.getElem?_cons_zero, List.getElem?_cons_succ, Bool.false_eq_true, not_true_eq_false, not_false_eq_true, List.contains_cons, List.contains_nil, Nat.reduceBEq, Bool.true_or, Bool.false_or, Bool.or_true, List.set_cons_zero, List.set_cons_succ, List.length_cons, List.length_nil, isLd, Bool.true_and, Bool.false_and, Bool.and_true, Bool.and_false, e0, e2, e10, e11, e79, e80, e81, hii, hgi]
  by_cases hit : i = t
  · subst hit
    simp (maxSteps := 300000) (disch := omega) only [gs, gs2, gs3, ↓reduceIte, Nat.reduceEqDiff, Nat.mul_one, Nat.add_zero, Nat.zero_add, Nat.zero_mul, Int.toNat_natCast, Int.reduceToNat, Nat.reduceMul, Nat.reduceAdd, decide_true, decide_false, Bool.not_true, Bool.not_false, true_and, and_true, List.map_cons, List.map_nil, List.nil_append, List.cons_append, List.append_nil, Option.map_some, Option.bind_some, List.getElem?_cons_zero, List.getElem?_cons_succ, Bool.false_eq_true, not_true_eq_false, not_false_eq_true, List.contains_cons, List.contains_nil, Nat.reduceBEq, Bool.true_or, Bool.false_or, Bool.or_true, List.set_cons_zero, List.set_cons_succ, List.length_cons, List.length_nil, isLd, Bool.true_and, Bool.false_and, Bool.and_true, Bool.and_false, e0, e2, e10, e11, e79, e80, e81, hgi]
    refine ⟨m - 1, by omega, G', Sub.refl _, i + 1, A', c', rfl, by omega, by omega, hw.cong fun a j ha hj => ?_, ?_⟩
    · unfold clrN
      by_cases e : a = i
      · subst e
        rw [if_neg (by omega), if_pos (by omega)]; unfold clr; rw [if_pos rfl]
      · by_cases e2 : a < i
        · rw [if_pos (by omega), if_pos (by omega)]
        · rw [if_neg (by omega), if_neg (by omega)]
    · repeat (first | exact hT | refine SameE.upd ?_ _ (by omega))
  simp (maxSteps := 300000) (disch := omega) only [gs, gs2, gs3, ↓reduceIte, Nat.reduceEqDiff, Nat.mul_one, Nat.add_zero, Nat.zero_add, Nat.zero_mul, Int.toNat_natCast, Int.reduceToNat, Nat.reduceMul, Nat.reduceAdd, decide_true, decide_false, Bool.not_true, Bool.not_false, true_and, and_true, List.map_cons, List.map_nil, List.nil_append, List.cons_append, List.append_nil, Option.map_some, Option.bind_some, List.getElem?_cons_zero, List.getElem?_cons_succ, Bool.false_eq_true, not_true_eq_false, not_false_eq_true, List.contains_cons, List.contains_nil, Nat.reduceBEq, Bool.true_or, Bool.false_or, Bool.or_true, List.set_cons_zero, List.set_cons_succ, List.length_cons, List.length_nil, isLd, Bool.true_and, Bool.false_and, Bool.and_true, Bool.and_false, e0, e2, e10, e11, e79, e80, e81, hgi, show ((i : Int) = t) = False from eq_false (by omega), q10, hci]
  by_cases hz : h i k = 0
  · simp (maxSteps := 300000) (disch := omega) only [gs, gs2, gs3, ↓reduceIte, Nat.reduceEqDiff, Nat.mul_one, Nat.add_zero, Nat.zero_add, Nat.zero_mul, Int.toNat_natCast, Int.reduceToNat, Nat.reduceMul, Nat.reduceAdd, decide_true, decide_false, Bool.not_true, Bool.not_false, true_and, and_true, List.map_cons, List.map_nil, List.nil_append, List.cons_append, List.append_nil, Option.map_some, Option.bind_some, List.getElem?_cons_zero, List.getElem?_cons_succ, Bool.false_eq_true, not_true_eq_false, not_false_eq_true, List.contains_cons, List.contains_nil, Nat.reduceBEq, Bool.true_or, Bool.false_or, Bool.or_true, List.set_cons_zero, List.set_cons_succ, List.length_cons, List.length_nil, isLd, Bool.true_and, Bool.false_and, Bool.and_true, Bool.and_false, e0, e2, e10, e11, e79, e80, e81, eq_true hz]
    refine ⟨m - 1, by omega, G', Sub.refl _, i + 1, A', c', rfl, by omega, by omega, hw.cong fun a j ha hj => ?_, ?_⟩
    · unfold clrN
      by_cases e : a = i
      · subst e
        rw [if_neg (by omega), if_pos (by omega)]; unfold clr
        rw [if_neg (by omega), hz, Int.sub_zero, Int.add_mul_emod_self_left, Int.emod_eq_of_lt (hr a j).1 (hr a j).2]
      · by_cases e2 : a < i
        · rw [if_pos (by omega), if_pos (by omega)]
        · rw [if_neg (by omega), if_neg (by omega)]
    · repeat (first | exact hT | refine SameE.upd ?_ _ (by omega))
  simp (maxSteps := 300000) (disch := omega) only [gs, gs2, gs3, ↓reduceIte, Nat.reduceEqDiff, Nat.mul_one, Nat.add_zero, Nat.zero_add, Nat.zero_mul, Int.toNat_natCast, Int.reduceToNat, Nat.reduceMul, Nat.reduceAdd, decide_true, decide_false, Bool.not_true, Bool.not_false, true_and, and_true, List.map_cons, List.map_nil, List.nil_append, List.cons_append, List.append_nil, Option.map_some, Option.bind_some, List.getElem?_cons_zero, List.getElem?_cons_succ, Bool.false_eq_true, not_true_eq_false, not_false_eq_true, List.contains_cons, List.contains_nil, Nat.reduceBEq, Bool.true_or, Bool.false_or, Bool.or_true, List.set_cons_zero, List.set_cons_succ, List.length_cons, List.length_nil, isLd, Bool.true_and, Bool.false_and, Bool.and_true, Bool.and_false, e0, e2, e10, e11, e79, e80, e81, eq_false hz, q10, hci, hgi, hgt]
  have hIi := hw.ints (i := i) (by omega)
  have hIt := hw.ints ht
  rw [hri] at hIi
  rw [clrN_t] at hIt
  refine impl_addTimes_ok (f := h i) (g := h t) hIi hIt hp ⟨by omega, by omega⟩ (fun j _ => hr i j) (fun j _ => hr t j) (by omega) fun G3 A3 c3 hN => ?_
  have hw3 := hw.up hN.sub
  have hrow := New.del (xs := rowL C fun j => (h i j + (p - h i k) * h t j) % p) (hN.cast rfl (rowL_len _ _).symm) hw.blk (Z := Z) (fun a ha => by obtain ⟨e, he⟩ := hZ a ha; exact ⟨e, hw.sub _ _ he⟩)
  simp (maxSteps := 300000) (disch := omega) only [gs, gs2, gs3, ↓reduceIte, Nat.reduceEqDiff, Nat.mul_one, Nat.add_zero, Nat.zero_add, Nat.zero_mul, Int.toNat_natCast, Int.reduceToNat, Nat.reduceMul, Nat.reduceAdd, decide_true, decide_false, Bool.not_true, Bool.not_false, true_and, and_true, List.map_cons, List.map_nil, List.nil_append, List.cons_append, List.append_nil, Option.map_some, Option.bind_some, List.getElem?_cons_zero, List.getElem?_cons_succ, Bool.false_eq_true, not_true_eq_false, not_false_eq_true, List.contains_cons, List.contains_nil, Nat.reduceBEq, Bool.true_or, Bool.false_or, Bool.or_true, List.set_cons_zero, List.set_cons_succ, List.length_cons, List.length_nil, isLd, Bool.true_and, Bool.false_and, Bool.and_true, Bool.and_false, e0, e2, e10, e11, e79, e80, e81]
  refine ⟨⟨rd_sub hN.sub hci, rd_sub hN.sub q10⟩, ?_⟩
  refine hw3.st (by omega) hbz hrow fun G4 hw4 _ _ => ?_
  simp (maxSteps := 300000) (disch := omega) only [gs, gs2, gs3, ↓reduceIte, Nat.reduceEqDiff, Nat.mul_one, Nat.add_zero, Nat.zero_add, Nat.zero_mul, Int.toNat_natCast, Int.reduceToNat, Nat.reduceMul, Nat.reduceAdd, decide_true, decide_false, Bool.not_true, Bool.not_false, true_and, and_true, List.map_cons, List.map_nil, List.nil_append, List.cons_append, List.append_nil, Option.map_some, Option.bind_some, List.getElem?_cons_zero, List.getElem?_cons_succ, Bool.false_eq_true, not_true_eq_false, not_false_eq_true, List.contains_cons, List.contains_nil, Nat.reduceBEq, Bool.true_or, Bool.false_or, Bool.or_true, List.set_cons_zero, List.set_cons_succ, List.length_cons, List.length_nil, isLd, Bool.true_and, Bool.false_and, Bool.and_true, Bool.and_false, e0, e2, e10, e11, e79, e80, e81]
  refine ⟨m - 1, by omega, G4, Sub.refl _, i + 1, _, _, rfl, by omega, by omega, hw4.cong fun a j ha hj => ?_, ?_⟩
  · unfold setr clrN
    by_cases e : a = i
    · subst e
      rw [if_pos rfl, if_pos (by omega)]; unfold clr
      rw [if_neg (by omega)]
    · rw [if_neg (by omega)]
      by_cases e2 : a < i
      · rw [if_pos (by omega), if_pos (by omega)]
      · rw [if_neg (by omega), if_neg (by omega)]
  · repeat (first | exact hT | refine SameE.upd ?_ _ (by omega))
abbrev elTail : GCode := .seq (.dreg c_impl_eliminate_13) (.seq (.reg c_impl_eliminate_14) (.seq (.dtree c_impl_eliminate_15) (.seq (.seq (.reg c_impl_eliminate_16) (.blk 2 (.loop c_impl_eliminate_l0))) (.reg c_impl_eliminate_23))))
theorem el_tail {H G : GH} {b b10 cp cq t k : Nat} {A : Nat → Option Addr} {c : Nat → Nat} {Ap : Option Addr} {R C : Nat} {g : Int → Int → Int} {rest : List Value} {p det : Int} {piv : List Int} {T : Nat → Value} {Q : Cont} (h : Rw H G b A c R C g rest Ap) (hR : R < 2 ^ 10) (hC : C < 2 ^ 10) (hr : Rng g p) (hp : 1 < p ∧ p ≤ 2 ^ 30)
    (ht : t < R) (hk : k < C) (hd : 0 ≤ det ∧ det < p) (hl : g t k ≠ 0) (k10 : rd (del G b) (some ⟨b10, 0, none⟩) = some (.int .i64 (k : Int))) (hO : Own G Ap cq (piv.map I64) 1 piv.length) (hOf : Off H Ap) (hda : ∀ a, Ap = some a → a.block ≠ b) (hpl : piv.length < 2 ^ 10)
    (e0 : T 0 = .slice (some ⟨b, 0, none⟩) R cp) (e1 : T 1 = .int .i64 C) (e2 : T 2 = .int .i64 p) (e8 : T 8 = .slice Ap piv.length cq) (e9 : T 9 = .int .i64 det) (e10 : T 10 = .pointer (some ⟨b10, 0, none⟩)) (e11 : T 11 = .int .i64 t) (e16 : T 16 = .int .i64 C) (e17 : T 17 = .int .i64 k)
    (hQ : ∀ T' G' A' c' Ap' cq', T' 0 = .slice (some ⟨b, 0, none⟩) R cp → T' 1 = .int .i64 C → T' 2 = .int .i64 p → T' 8 = .slice Ap' (piv.length + 1) cq' → T' 9 = .int .i64 (det * g t k % p) → T' 16 = .int .i64 C → T' 17 = .int .i64 k →
      Rw H G' b A' c' R C (clr (scl g t (invF (g t k) p) p) t k p) rest Ap' → Own G' Ap' cq' ((piv ++ [(k : Int)]).map I64) 1 (piv.length + 1) → Off H Ap' → (∀ a, Ap' = some a → a.block ≠ b) → Q .nrm T' G') : gW Try.prog elTail Q T G := by
  have q10 := rd_sub (Sub.del _ _) k10
  have hgt := h.get ht
  have hcl := h.cell ht hk
  have hsn := h.sn ht (by omega)
  have hb := hr t k
  have hmm := mulB (a := det) (b := g t k) (A := 2 ^ 30) (B := 2 ^ 30) (by omega) (by omega)
  have hnn : 0 ≤ det * g t k := Int.mul_nonneg hd.1 hb.1
  have w1 := w64 (det * g t k) (by omega) (by omega)
  have hrm : (det * g t k).tmod p = det * g t k % p := Int.tmod_eq_emod_of_nonneg hnn
  have hrem := fun x : Int => bin_rem .i64 x p (by omega)
  simp (maxSteps := 300000) (disch := omega) only [gs, gs2, gs3, ↓reduceIte, Nat.reduceEqDiff, Nat.mul_one, Nat.add_zero, Nat.zero_add, Nat.zero_mul, Int.toNat_natCast, Int.reduceToNat, Nat.reduceMul, Nat.reduceAdd, decide_true, decide_false, Bool.not_true, Bool.not_false, true_and, and_true, List.map_cons, List.map_nil, List.nil_append, List.cons_append, List.append_nil, Option.map_some, Option.bind_some, List.getElem?_cons_zero, List.getElem?_cons_succ, Bool.false_eq_true, not_true_eq_false, not_false_eq_true, List.contains_cons, List.contains_nil, Nat.reduceBEq, Bool.true_or, Bool.false_or, Bool.or_true, List.set_cons_zero, List.set_cons_succ, List.length_cons, List.length_nil, isLd, Bool.true_and, Bool.false_and, Bool.and_true, Bool.and_false, e0, e1, e2, e8, e9, e10, e11, e16, e17, hgt, hcl, q10, w1, hrem, hrm]
  have hz : zc [.int .i64 0] C = (rowL C fun _ => 0).map I64 := by rw [zc_one, rep_range]; unfold rowL; rw [List.map_map]; rfl
  have hgr := h.ints ht
  have hinvb := pw_rng (a := g t k) (p := p) hp.1 (p - 2).toNat
  have key : ∀ (G1 : GH) (bz : Nat), Sub G G1 → IntS G1 (some ⟨bz, 0, none⟩) C (rowL C fun _ => 0) → ∀ {K : Value → GH → Prop}, (∀ G' A' c', New G1 G' A' c' ((rowL C fun j => (g t j * invF (g t k) p) % p).map I64) 1 C → K (.slice A' C c') G') → GC Try.prog 255 [.slice (some ⟨bz, 0, none⟩) C C, .slice (A t) C (c t), .int .i64 (invF (g t k) p), .int .i64 p] G1 K := by
    intro G1 bz s1 hz1 K hK
    refine impl_addTimes_ok (f := fun _ => 0) (g := g t) hz1 (hgr.sub s1) hp ⟨by unfold invF; omega, by unfold invF; omega⟩ (fun j _ => by omega) (fun j _ => hr t j) (by omega) fun G' A' c' hN => hK G' A' c' (hN.cast ?_ rfl)
    congr 1
    exact rowL_congr fun j _ => by rw [Int.zero_add, Int.mul_comm]
  have fin : ∀ (G1 G2 : GH) (A3 : Option Addr) (c3 : Nat) (T' : Nat → Value) (Q' : Cont), Sub G G1 → New G1 G2 A3 c3 ((rowL C fun j => (g t j * invF (g t k) p) % p).map I64) 1 C → SameE T' T → True := fun _ _ _ _ _ _ _ _ _ => trivial
  clear fin
  refine ⟨?_, ?_⟩
  · refine ⟨C, C, rfl, rfl, Nat.le_refl _, by omega, by omega, fun bz hbz => ?_⟩
    rw [hz]
    have sz := Sub.put hbz ⟨(rowL C fun _ => 0).map I64, true⟩
    have hI0 : IntS (put G bz ⟨(rowL C fun _ => 0).map I64, true⟩) (some ⟨bz, 0, none⟩) C (rowL C fun _ => 0) := by
      have := blk_ints (xs := rowL C fun _ => 0) (put_same G bz ⟨(rowL C fun _ => 0).map I64, true⟩)
      rwa [rowL_len] at this
    have hw1 := h.up sz
    have hO1 := hO.sub sz
    have kd1 := rd_sub (sz.del2 b) k10
    have hgt1 := hw1.get ht
    revert sz hI0 hw1 hO1 kd1 hgt1
    generalize put G bz ⟨(rowL C fun _ => 0).map I64, true⟩ = G1
    intro sz hI0 hw1 hO1 kd1 hgt1
    simp (maxSteps := 300000) (disch := omega) only [gs, gs2, gs3, ↓reduceIte, Nat.reduceEqDiff, Nat.mul_one, Nat.add_zero, Nat.zero_add, Nat.zero_mul, Int.toNat_natCast, Int.reduceToNat, Nat.reduceMul, Nat.reduceAdd, decide_true, decide_false, Bool.not_true, Bool.not_false, true_and, and_true, List.map_cons, List.map_nil, List.nil_append, List.cons_append, List.append_nil, Option.map_some, Option.bind_some, List.getElem?_cons_zero, List.getElem?_cons_succ, Bool.false_eq_true, not_true_eq_false, not_false_eq_true, List.contains_cons, List.contains_nil, Nat.reduceBEq, Bool.true_or, Bool.false_or, Bool.or_true, List.set_cons_zero, List.set_cons_succ, List.length_cons, List.length_nil, isLd, Bool.true_and, Bool.false_and, Bool.and_true, Bool.and_false, hgt1]
    refine impl_inverseOf_ok ⟨by omega, by omega⟩ ⟨by omega, by omega⟩ ?_
    simp (maxSteps := 300000) (disch := omega) only [gs, gs2, gs3, ↓reduceIte, Nat.reduceEqDiff, Nat.mul_one, Nat.add_zero, Nat.zero_add, Nat.zero_mul, Int.toNat_natCast, Int.reduceToNat, Nat.reduceMul, Nat.reduceAdd, decide_true, decide_false, Bool.not_true, Bool.not_false, true_and, and_true, List.map_cons, List.map_nil, List.nil_append, List.cons_append, List.append_nil, Option.map_some, Option.bind_some, List.getElem?_cons_zero, List.getElem?_cons_succ, Bool.false_eq_true, not_true_eq_false, not_false_eq_true, List.contains_cons, List.contains_nil, Nat.reduceBEq, Bool.true_or, Bool.false_or, Bool.or_true, List.set_cons_zero, List.set_cons_succ, List.length_cons, List.length_nil, isLd, Bool.true_and, Bool.false_and, Bool.and_true, Bool.and_false, hgt1]
    refine key G1 bz sz hI0 fun G2 A3 c3 hN => ?_
    simp (maxSteps := 300000) (disch := omega) only [gs, gs2, gs3, ↓reduceIte, Nat.reduceEqDiff, Nat.mul_one, Nat.add_zero, Nat.zero_add, Nat.zero_mul, Int.toNat_natCast, Int.reduceToNat, Nat.reduceMul, Nat.reduceAdd, decide_true, decide_false, Bool.not_true, Bool.not_false, true_and, and_true, List.map_cons, List.map_nil, List.nil_append, List.cons_append, List.append_nil, Option.map_some, Option.bind_some, List.getElem?_cons_zero, List.getElem?_cons_succ, Bool.false_eq_true, not_true_eq_false, not_false_eq_true, List.contains_cons, List.contains_nil, Nat.reduceBEq, Bool.true_or, Bool.false_or, Bool.or_true, List.set_cons_zero, List.set_cons_succ, List.length_cons, List.length_nil, isLd, Bool.true_and, Bool.false_and, Bool.and_true, Bool.and_false, e0]
    have hO2 := hO1.sub hN.sub
    have hZ1 : ∀ a, Ap = some a → ∃ e, G1 a.block = some e := fun a ha => by
      rcases hO1 with ⟨h0, _⟩ | ⟨x, r, h0, h1, _⟩
      · rw [h0] at ha; cases ha
      · rw [h0] at ha; cases ha; exact ⟨_, h1⟩
    refine (hw1.up hN.sub).st ht hda (New.del (xs := rowL C fun j => (g t j * invF (g t k) p) % p) (hN.cast rfl (rowL_len _ _).symm) hw1.blk hZ1) fun G3 hw3 hdel _ => ?_
    rw [← setr_scl] at hw3
    have kd3 : rd (del G3 b) (some ⟨b10, 0, none⟩) = some (.int .i64 (k : Int)) := by rw [hdel]; exact rd_sub (hN.sub.del2 b) kd1
    have hO3 : Own G3 Ap cq (piv.map I64) 1 piv.length := (hO2.del hda).sub (by rw [← hdel]; exact Gh.Sub.del _ _)
    have hZ3 : ∀ a, Ap = some a → ∃ e, (del G3 b) a.block = some e := fun a ha => by
      rcases hO3 with ⟨h0, _⟩ | ⟨x, r, h0, h1, _⟩
      · rw [h0] at ha; cases ha
      · have := hda a ha
        rw [h0] at ha; cases ha; exact ⟨_, by rw [del_ne _ this]; exact h1⟩
    simp (maxSteps := 300000) (disch := omega) only [gs, gs2, gs3, ↓reduceIte, Nat.reduceEqDiff, Nat.mul_one, Nat.add_zero, Nat.zero_add, Nat.zero_mul, Int.toNat_natCast, Int.reduceToNat, Nat.reduceMul, Nat.reduceAdd, decide_true, decide_false, Bool.not_true, Bool.not_false, true_and, and_true, List.map_cons, List.map_nil, List.nil_append, List.cons_append, List.append_nil, Option.map_some, Option.bind_some, List.getElem?_cons_zero, List.getElem?_cons_succ, Bool.false_eq_true, not_true_eq_false, not_false_eq_true, List.contains_cons, List.contains_nil, Nat.reduceBEq, Bool.true_or, Bool.false_or, Bool.or_true, List.set_cons_zero, List.set_cons_succ, List.length_cons, List.length_nil, isLd, Bool.true_and, Bool.false_and, Bool.and_true, Bool.and_false, e0]
    refine el_l0 (D := del G3 b) (cp := cp) (h := scl g t (invF (g t k) p) p) (t := t) (k := k) hw3.all hda hZ3 hR hC (hr.scl (by omega) _ _) hp ht hk kd3 (by simp (maxSteps := 300000) (disch := omega) only [gs, gs2, gs3, ↓reduceIte, Nat.reduceEqDiff, Nat.mul_one, Nat.add_zero, Nat.zero_add, Nat.zero_mul, Int.toNat_natCast, Int.reduceToNat, Nat.reduceMul, Nat.reduceAdd, decide_true, decide_false, Bool.not_true, Bool.not_false, true_and, and_true, List.map_cons, List.map_nil, List.nil_append, List.cons_append, List.append_nil, Option.map_some, Option.bind_some, List.getElem?_cons_zero, List.getElem?_cons_succ, Bool.false_eq_true, not_true_eq_false, not_false_eq_true, List.contains_cons, List.contains_nil, Nat.reduceBEq, Bool.true_or, Bool.false_or, Bool.or_true, List.set_cons_zero, List.set_cons_succ, List.length_cons, List.length_nil, isLd, Bool.true_and, Bool.false_and, Bool.and_true, Bool.and_false, e0]) (by simp (maxSteps := 300000) (disch := omega) only [gs, gs2, gs3, ↓reduceIte, Nat.reduceEqDiff, Nat.mul_one, Nat.add_zero, Nat.zero_add, Nat.zero_mul, Int.toNat_natCast, Int.reduceToNat, Nat.reduceMul, Nat.reduceAdd, decide_true, decide_false, Bool.not_true, Bool.not_false, true_and, and_true, List.map_cons, List.map_nil, List.nil_append, List.cons_append, List.append_nil, Option.map_some, Option.bind_some, List.getElem?_cons_zero, List.getElem?_cons_succ, Bool.false_eq_true, not_true_eq_false, not_false_eq_true, List.contains_cons, List.contains_nil, Nat.reduceBEq, Bool.true_or, Bool.false_or, Bool.or_true, List.set_cons_zero, List.set_cons_succ, List.length_cons, List.length_nil, isLd, Bool.true_and, Bool.false_and, Bool.and_true, Bool.and_false, e2]) (by simp (maxSteps := 300000) (disch := omega) only [gs, gs2, gs3, ↓reduceIte, Nat.reduceEqDiff, Nat.mul_one, Nat.add_zero, Nat.zero_add, Nat.zero_mul, Int.toNat_natCast, Int.reduceToNat, Nat.reduceMul, Nat.reduceAdd, decide_true, decide_false, Bool.not_true, Bool.not_false, true_and, and_true, List.map_cons, List.map_nil, List.nil_append, List.cons_append, List.append_nil, Option.map_some, Option.bind_some, List.getElem?_cons_zero, List.getElem?_cons_succ, Bool.false_eq_true, not_true_eq_false, not_false_eq_true, List.contains_cons, List.contains_nil, Nat.reduceBEq, Bool.true_or, Bool.false_or, Bool.or_true, List.set_cons_zero, List.set_cons_succ, List.length_cons, List.length_nil, isLd, Bool.true_and, Bool.false_and, Bool.and_true, Bool.and_false, e10]) (by simp (maxSteps := 300000) (disch := omega) only [gs, gs2, gs3, ↓reduceIte, Nat.reduceEqDiff, Nat.mul_one, Nat.add_zero, Nat.zero_add, Nat.zero_mul, Int.toNat_natCast, Int.reduceToNat, Nat.reduceMul, Nat.reduceAdd, decide_true, decide_false, Bool.not_true, Bool.not_false, true_and, and_true, List.map_cons, List.map_nil, List.nil_append, List.cons_append, List.append_nil, Option.map_some, Option.bind_some, List.getElem?_cons_zero, List.getElem?_cons_succ, Bool.false_eq_true, not_true_eq_false, not_false_eq_true, List.contains_cons, List.contains_nil, Nat.reduceBEq, Bool.true_or, Bool.false_or, Bool.or_true, List.set_cons_zero, List.set_cons_succ, List.length_cons, List.length_nil, isLd, Bool.true_and, Bool.false_and, Bool.and_true, Bool.and_false, e11]) (by simp (maxSteps := 300000) (disch := omega) only [gs, gs2, gs3, ↓reduceIte, Nat.reduceEqDiff, Nat.mul_one, Nat.add_zero, Nat.zero_add, Nat.zero_mul, Int.toNat_natCast, Int.reduceToNat, Nat.reduceMul, Nat.reduceAdd, decide_true, decide_false, Bool.not_true, Bool.not_false, true_and, and_true, List.map_cons, List.map_nil, List.nil_append, List.cons_append, List.append_nil, Option.map_some, Option.bind_some, List.getElem?_cons_zero, List.getElem?_cons_succ, Bool.false_eq_true, not_true_eq_false, not_false_eq_true, List.contains_cons, List.contains_nil, Nat.reduceBEq, Bool.true_or, Bool.false_or, Bool.or_true, List.set_cons_zero, List.set_cons_succ, List.length_cons, List.length_nil, isLd, Bool.true_and, Bool.false_and, Bool.and_true, Bool.and_false, e0]) (by simp (maxSteps := 300000) (disch := omega) only [gs, gs2, gs3, ↓reduceIte, Nat.reduceEqDiff, Nat.mul_one, Nat.add_zero, Nat.zero_add, Nat.zero_mul, Int.toNat_natCast, Int.reduceToNat, Nat.reduceMul, Nat.reduceAdd, decide_true, decide_false, Bool.not_true, Bool.not_false, true_and, and_true, List.map_cons, List.map_nil, List.nil_append, List.cons_append, List.append_nil, Option.map_some, Option.bind_some, List.getElem?_cons_zero, List.getElem?_cons_succ, Bool.false_eq_true, not_true_eq_false, not_false_eq_true, List.contains_cons, List.contains_nil, Nat.reduceBEq, Bool.true_or, Bool.false_or, Bool.or_true, List.set_cons_zero, List.set_cons_succ, List.length_cons, List.length_nil, isLd, Bool.true_and, Bool.false_and, Bool.and_true, Bool.and_false]) (by simp (maxSteps := 300000) (disch := omega) only [gs, gs2, gs3, ↓reduceIte, Nat.reduceEqDiff, Nat.mul_one, Nat.add_zero, Nat.zero_add, Nat.zero_mul, Int.toNat_natCast, Int.reduceToNat, Nat.reduceMul, Nat.reduceAdd, decide_true, decide_false, Bool.not_true, Bool.not_false, true_and, and_true, List.map_cons, List.map_nil, List.nil_append, List.cons_append, List.append_nil, Option.map_some, Option.bind_some, List.getElem?_cons_zero, List.getElem?_cons_succ, Bool.false_eq_true, not_true_eq_false, not_false_eq_true, List.contains_cons, List.contains_nil, Nat.reduceBEq, Bool.true_or, Bool.false_or, Bool.or_true, List.set_cons_zero, List.set_cons_succ, List.length_cons, List.length_nil, isLd, Bool.true_and, Bool.false_and, Bool.and_true, Bool.and_false] <;> rfl) fun T' G4 A' c' hT hw4 => ?_
    have hO4 : Own G4 Ap cq (piv.map I64) 1 piv.length := (hO3.del hda).sub hw4.sub
    have q4 := rd_sub hw4.sub kd3
    have f0 : T' 0 = .slice (some ⟨b, 0, none⟩) R cp := (hT 0 (by omega)).trans (by simp (maxSteps := 300000) (disch := omega) only [gs, gs2, gs3, ↓reduceIte, Nat.reduceEqDiff, Nat.mul_one, Nat.add_zero, Nat.zero_add, Nat.zero_mul, Int.toNat_natCast, Int.reduceToNat, Nat.reduceMul, Nat.reduceAdd, decide_true, decide_false, Bool.not_true, Bool.not_false, true_and, and_true, List.map_cons, List.map_nil, List.nil_append, List.cons_append, List.append_nil, Option.map_some, Option.bind_some, List.getElem?_cons_zero, List.getElem?_cons_succ, Bool.false_eq_true, not_true_eq_false, not_false_eq_true, List.contains_cons, List.contains_nil, Nat.reduceBEq, Bool.true_or, Bool.false_or, Bool.or_true, List.set_cons_zero, List.set_cons_succ, List.length_cons, List.length_nil, isLd, Bool.true_and, Bool.false_and, Bool.and_true, Bool.and_false, e0])
    have f1 : T' 1 = .int .i64 C := (hT 1 (by omega)).trans (by simp (maxSteps := 300000) (disch := omega) only [gs, gs2, gs3, ↓reduceIte, Nat.reduceEqDiff, Nat.mul_one, Nat.add_zero, Nat.zero_add, Nat.zero_mul, Int.toNat_natCast, Int.reduceToNat, Nat.reduceMul, Nat.reduceAdd, decide_true, decide_false, Bool.not_true, Bool.not_false, true_and, and_true, List.map_cons, List.map_nil, List.nil_append, List.cons_append, List.append_nil, Option.map_some, Option.bind_some, List.getElem?_cons_zero, List.getElem?_cons_succ, Bool.false_eq_true, not_true_eq_false, not_false_eq_true, List.contains_cons, List.contains_nil, Nat.reduceBEq, Bool.true_or, Bool.false_or, Bool.or_true, List.set_cons_zero, List.set_cons_succ, List.length_cons, List.length_nil, isLd, Bool.true_and, Bool.false_and, Bool.and_true, Bool.and_false, e1])
    have f2 : T' 2 = .int .i64 p := (hT 2 (by omega)).trans (by simp (maxSteps := 300000) (disch := omega) only [gs, gs2, gs3, ↓reduceIte, Nat.reduceEqDiff, Nat.mul_one, Nat.add_zero, Nat.zero_add, Nat.zero_mul, Int.toNat_natCast, Int.reduceToNat, Nat.reduceMul, Nat.reduceAdd, decide_true, decide_false, Bool.not_true, Bool.not_false, true_and, and_true, List.map_cons, List.map_nil, List.nil_append, List.cons_append, List.append_nil, Option.map_some, Option.bind_some, List.getElem?_cons_zero, List.getElem?_cons_succ, Bool.false_eq_true, not_true_eq_false, not_false_eq_true, List.contains_cons, List.contains_nil, Nat.reduceBEq, Bool.true_or, Bool.false_or, Bool.or_true, List.set_cons_zero, List.set_cons_succ, List.length_cons, List.length_nil, isLd, Bool.true_and, Bool.false_and, Bool.and_true, Bool.and_false, e2])
    have f8 : T' 8 = .slice Ap piv.length cq := (hT 8 (by omega)).trans (by simp (maxSteps := 300000) (disch := omega) only [gs, gs2, gs3, ↓reduceIte, Nat.reduceEqDiff, Nat.mul_one, Nat.add_zero, Nat.zero_add, Nat.zero_mul, Int.toNat_natCast, Int.reduceToNat, Nat.reduceMul, Nat.reduceAdd, decide_true, decide_false, Bool.not_true, Bool.not_false, true_and, and_true, List.map_cons, List.map_nil, List.nil_append, List.cons_append, List.append_nil, Option.map_some, Option.bind_some, List.getElem?_cons_zero, List.getElem?_cons_succ, Bool.false_eq_true, not_true_eq_false, not_false_eq_true, List.contains_cons, List.contains_nil, Nat.reduceBEq, Bool.true_or, Bool.false_or, Bool.or_true, List.set_cons_zero, List.set_cons_succ, List.length_cons, List.length_nil, isLd, Bool.true_and, Bool.false_and, Bool.and_true, Bool.and_false, e8])
    have f9 : T' 9 = .int .i64 (det * g t k % p) := (hT 9 (by omega)).trans (by simp (maxSteps := 300000) (disch := omega) only [gs, gs2, gs3, ↓reduceIte, Nat.reduceEqDiff, Nat.mul_one, Nat.add_zero, Nat.zero_add, Nat.zero_mul, Int.toNat_natCast, Int.reduceToNat, Nat.reduceMul, Nat.reduceAdd, decide_true, decide_false, Bool.not_true, Bool.not_false, true_and, and_true, List.map_cons, List.map_nil, List.nil_append, List.cons_append, List.append_nil, Option.map_some, Option.bind_some, List.getElem?_cons_zero, List.getElem?_cons_succ, Bool.false_eq_true, not_true_eq_false, not_false_eq_true, List.contains_cons, List.contains_nil, Nat.reduceBEq, Bool.true_or, Bool.false_or, Bool.or_true, List.set_cons_zero, List.set_cons_succ, List.length_cons, List.length_nil, isLd, Bool.true_and, Bool.false_and, Bool.and_true, Bool.and_false])
    have f10 : T' 10 = .pointer (some ⟨b10, 0, none⟩) := (hT 10 (by omega)).trans (by simp (maxSteps := 300000) (disch := omega) only [gs, gs2, gs3, ↓reduceIte, Nat.reduceEqDiff, Nat.mul_one, Nat.add_zero, Nat.zero_add, Nat.zero_mul, Int.toNat_natCast, Int.reduceToNat, Nat.reduceMul, Nat.reduceAdd, decide_true, decide_false, Bool.not_true, Bool.not_false, true_and, and_true, List.map_cons, List.map_nil, List.nil_append, List.cons_append, List.append_nil, Option.map_some, Option.bind_some, List.getElem?_cons_zero, List.getElem?_cons_succ, Bool.false_eq_true, not_true_eq_false, not_false_eq_true, List.contains_cons, List.contains_nil, Nat.reduceBEq, Bool.true_or, Bool.false_or, Bool.or_true, List.set_cons_zero, List.set_cons_succ, List.length_cons, List.length_nil, isLd, Bool.true_and, Bool.false_and, Bool.and_true, Bool.and_false, e10])
    have f16 : T' 16 = .int .i64 C := (hT 16 (by omega)).trans (by simp (maxSteps := 300000) (disch := omega) only [gs, gs2, gs3, ↓reduceIte, Nat.reduceEqDiff, Nat.mul_one, Nat.add_zero, Nat.zero_add, Nat.zero_mul, Int.toNat_natCast, Int.reduceToNat, Nat.reduceMul, Nat.reduceAdd, decide_true, decide_false, Bool.not_true, Bool.not_false, true_and, and_true, List.map_cons, List.map_nil, List.nil_append, List.cons_append, List.append_nil, Option.map_some, Option.bind_some, List.getElem?_cons_zero, List.getElem?_cons_succ, Bool.false_eq_true, not_true_eq_false, not_false_eq_true, List.contains_cons, List.contains_nil, Nat.reduceBEq, Bool.true_or, Bool.false_or, Bool.or_true, List.set_cons_zero, List.set_cons_succ, List.length_cons, List.length_nil, isLd, Bool.true_and, Bool.false_and, Bool.and_true, Bool.and_false, e16])
    have f17 : T' 17 = .int .i64 k := (hT 17 (by omega)).trans (by simp (maxSteps := 300000) (disch := omega) only [gs, gs2, gs3, ↓reduceIte, Nat.reduceEqDiff, Nat.mul_one, Nat.add_zero, Nat.zero_add, Nat.zero_mul, Int.toNat_natCast, Int.reduceToNat, Nat.reduceMul, Nat.reduceAdd, decide_true, decide_false, Bool.not_true, Bool.not_false, true_and, and_true, List.map_cons, List.map_nil, List.nil_append, List.cons_append, List.append_nil, Option.map_some, Option.bind_some, List.getElem?_cons_zero, List.getElem?_cons_succ, Bool.false_eq_true, not_true_eq_false, not_false_eq_true, List.contains_cons, List.contains_nil, Nat.reduceBEq, Bool.true_or, Bool.false_or, Bool.or_true, List.set_cons_zero, List.set_cons_succ, List.length_cons, List.length_nil, isLd, Bool.true_and, Bool.false_and, Bool.and_true, Bool.and_false, e17])
    clear hT
    have hwH : Rw H G4 b A' c' R C (clr (scl g t (invF (g t k) p) p) t k p) rest Ap := ⟨(hw3.sub.in_del hw3.nb).trans hw4.sub, hw3.nb, hw4.blk, hw4.row⟩
    simp (maxSteps := 300000) (disch := omega) only [gs, gs2, gs3, ↓reduceIte, Nat.reduceEqDiff, Nat.mul_one, Nat.add_zero, Nat.zero_add, Nat.zero_mul, Int.toNat_natCast, Int.reduceToNat, Nat.reduceMul, Nat.reduceAdd, decide_true, decide_false, Bool.not_true, Bool.not_false, true_and, and_true, List.map_cons, List.map_nil, List.nil_append, List.cons_append, List.append_nil, Option.map_some, Option.bind_some, List.getElem?_cons_zero, List.getElem?_cons_succ, Bool.false_eq_true, not_true_eq_false, not_false_eq_true, List.contains_cons, List.contains_nil, Nat.reduceBEq, Bool.true_or, Bool.false_or, Bool.or_true, List.set_cons_zero, List.set_cons_succ, List.length_cons, List.length_nil, isLd, Bool.true_and, Bool.false_and, Bool.and_true, Bool.and_false, f0, f1, f2, f8, f9, f10, f16, f17, q4, gBs]
    refine ⟨by intro v hv; simp at hv; subst hv; rfl, fun b15 hb15 => ?_⟩
    refine ap_own (hO4.sub (Sub.put hb15 _)) (cells_one [.int .i64 (k : Int)] true) rfl (by intro v hv; simp at hv; subst hv; rfl) rfl (by omega) (by omega) (by omega) fun G5 A5 c5 hO5 keep => ?_
    obtain ⟨s5, o5⟩ := keep _ (Sub.wo _ _) (Off.wo _ _)
    obtain ⟨hw5, oH5, d5⟩ := (hwH.up (Sub.put hb15 _)).rez hda hOf s5 o5
    simp (maxSteps := 300000) (disch := omega) only [gs, gs2, gs3, ↓reduceIte, Nat.reduceEqDiff, Nat.mul_one, Nat.add_zero, Nat.zero_add, Nat.zero_mul, Int.toNat_natCast, Int.reduceToNat, Nat.reduceMul, Nat.reduceAdd, decide_true, decide_false, Bool.not_true, Bool.not_false, true_and, and_true, List.map_cons, List.map_nil, List.nil_append, List.cons_append, List.append_nil, Option.map_some, Option.bind_some, List.getElem?_cons_zero, List.getElem?_cons_succ, Bool.false_eq_true, not_true_eq_false, not_false_eq_true, List.contains_cons, List.contains_nil, Nat.reduceBEq, Bool.true_or, Bool.false_or, Bool.or_true, List.set_cons_zero, List.set_cons_succ, List.length_cons, List.length_nil, isLd, Bool.true_and, Bool.false_and, Bool.and_true, Bool.and_false, f0, f1, f2, f8, f9, f10, f16, f17]
    exact hQ _ _ A' c' A5 c5 (by simp (maxSteps := 300000) (disch := omega) only [gs, gs2, gs3, ↓reduceIte, Nat.reduceEqDiff, Nat.mul_one, Nat.add_zero, Nat.zero_add, Nat.zero_mul, Int.toNat_natCast, Int.reduceToNat, Nat.reduceMul, Nat.reduceAdd, decide_true, decide_false, Bool.not_true, Bool.not_false, true_and, and_true, List.map_cons, List.map_nil, List.nil_append, List.cons_append, List.append_nil, Option.map_some, Option.bind_some, List.getElem?_cons_zero, List.getElem?_cons_succ, Bool.false_eq_true, not_true_eq_false, not_false_eq_true, List.contains_cons, List.contains_nil, Nat.reduceBEq, Bool.true_or, Bool.false_or, Bool.or_true, List.set_cons_zero, List.set_cons_succ, List.length_cons, List.length_nil, isLd, Bool.true_and, Bool.false_and, Bool.and_true, Bool.and_false, f0]) (by simp (maxSteps := 300000) (disch := omega) only [gs, gs2, gs3, ↓reduceIte, Nat.reduceEqDiff, Nat.mul_one, Nat.add_zero, Nat.zero_add, Nat.zero_mul, Int.toNat_natCast, Int.reduceToNat, Nat.reduceMul, Nat.reduceAdd, decide_true, decide_false, Bool.not_true, Bool.not_false, true_and, and_true, List.map_cons, List.map_nil, List.nil_append, List.cons_append, List.append_nil, Option.map_some, Option.bind_some, List.getElem?_cons_zero, List.getElem?_cons_succ, Bool.false_eq_true, not_true_eq_false, not_false_eq_true, List.contains_cons, List.contains_nil, Nat.reduceBEq, Bool.true_or, Bool.false_or, Bool.or_true, List.set_cons_zero, List.set_cons_succ, List.length_cons, List.length_nil, isLd, Bool.true_and, Bool.false_and, Bool.and_true, Bool.and_false, f1]) (by simp (maxSteps := 300000) (disch := omega) only [gs, gs2, gs3, ↓reduceIte, Nat.reduceEqDiff, Nat.mul_one, Nat.add_zero, Nat.zero_add, Nat.zero_mul, Int.toNat_natCast, Int.reduceToNat, Nat.reduceMul, Nat.reduceAdd, decide_true, decide_false, Bool.not_true, Bool.not_false, true_and, and_true, List.map_cons, List.map_nil, List.nil_append, List.cons_append, List.append_nil, Option.map_some, Option.bind_some, List.getElem?_cons_zero, List.getElem?_cons_succ, Bool.false_eq_true, not_true_eq_false, not_false_eq_true, List.contains_cons, List.contains_nil, Nat.reduceBEq, Bool.true_or, Bool.false_or, Bool.or_true, List.set_cons_zero, List.set_cons_succ, List.length_cons, List.length_nil, isLd, Bool.true_and, Bool.false_and, Bool.and_true, Bool.and_false, f2]) (by simp (maxSteps := 300000) (disch := omega) only [gs, gs2, gs3, ↓reduceIte, Nat.reduceEqDiff, Nat.mul_one, Nat.add_zero, Nat.zero_add, Nat.zero_mul, Int.toNat_natCast, Int.reduceToNat, Nat.reduceMul, Nat.reduceAdd, decide_true, decide_false, Bool.not_true, Bool.not_false, true_and, and_true, List.map_cons, List.map_nil, List.nil_append, List.cons_append, List.append_nil, Option.map_some, Option.bind_some, List.getElem?_cons_zero, List.getElem?_cons_succ, Bool.false_eq_true, not_true_eq_false, not_false_eq_true, List.contains_cons, List.contains_nil, Nat.reduceBEq, Bool.true_or, Bool.false_or, Bool.or_true, List.set_cons_zero, List.set_cons_succ, List.length_cons, List.length_nil, isLd, Bool.true_and, Bool.false_and, Bool.and_true, Bool.and_false]) (by simp (maxSteps := 300000) (disch := omega) only [gs, gs2, gs3, ↓reduceIte, Nat.reduceEqDiff, Nat.mul_one, Nat.add_zero, Nat.zero_add, Nat.zero_mul, Int.toNat_natCast, Int.reduceToNat, Nat.reduceMul, Nat.reduceAdd, decide_true, decide_false, Bool.not_true, Bool.not_false, true_and, and_true, List.map_cons, List.map_nil, List.nil_append, List.cons_append, List.append_nil, Option.map_some, Option.bind_some, List.getElem?_cons_zero, List.getElem?_cons_succ, Bool.false_eq_true, not_true_eq_false, not_false_eq_true, List.contains_cons, List.contains_nil, Nat.reduceBEq, Bool.true_or, Bool.false_or, Bool.or_true, List.set_cons_zero, List.set_cons_succ, List.length_cons, List.length_nil, isLd, Bool.true_and, Bool.false_and, Bool.and_true, Bool.and_false, f9]) (by simp (maxSteps := 300000) (disch := omega) only [gs, gs2, gs3, ↓reduceIte, Nat.reduceEqDiff, Nat.mul_one, Nat.add_zero, Nat.zero_add, Nat.zero_mul, Int.toNat_natCast, Int.reduceToNat, Nat.reduceMul, Nat.reduceAdd, decide_true, decide_false, Bool.not_true, Bool.not_false, true_and, and_true, List.map_cons, List.map_nil, List.nil_append, List.cons_append, List.append_nil, Option.map_some, Option.bind_some, List.getElem?_cons_zero, List.getElem?_cons_succ, Bool.false_eq_true, not_true_eq_false, not_false_eq_true, List.contains_cons, List.contains_nil, Nat.reduceBEq, Bool.true_or, Bool.false_or, Bool.or_true, List.set_cons_zero, List.set_cons_succ, List.length_cons, List.length_nil, isLd, Bool.true_and, Bool.false_and, Bool.and_true, Bool.and_false, f16]) (by simp (maxSteps := 300000) (disch := omega) only [gs, gs2, gs3, ↓reduceIte, Nat.reduceEqDiff, Nat.mul_one, Nat.add_zero, Nat.zero_add, Nat.zero_mul, Int.toNat_natCast, Int.reduceToNat, Nat.reduceMul, Nat.reduceAdd, decide_true, decide_false, Bool.not_true, Bool.not_false, true_and, and_true, List.map_cons, List.map_nil, List.nil_append, List.cons_append, List.append_nil, Option.map_some, Option.bind_some, List.getElem?_cons_zero, List.getElem?_cons_succ, Bool.false_eq_true, not_true_eq_false, not_false_eq_true, List.contains_cons, List.contains_nil, Nat.reduceBEq, Bool.true_or, Bool.false_or, Bool.or_true, List.set_cons_zero, List.set_cons_succ, List.length_cons, List.length_nil, isLd, Bool.true_and, Bool.false_and, Bool.and_true, Bool.and_false, f17]) hw5 (hO5.cast (by simp [I64]) rfl) oH5 d5
  · refine impl_inverseOf_ok ⟨by omega, by omega⟩ ⟨by omega, by omega⟩ ?_
    simp (maxSteps := 300000) (disch := omega) only [gs, gs2, gs3, ↓reduceIte, Nat.reduceEqDiff, Nat.mul_one, Nat.add_zero, Nat.zero_add, Nat.zero_mul, Int.toNat_natCast, Int.reduceToNat, Nat.reduceMul, Nat.reduceAdd, decide_true, decide_false, Bool.not_true, Bool.not_false, true_and, and_true, List.map_cons, List.map_nil, List.nil_append, List.cons_append, List.append_nil, Option.map_some, Option.bind_some, List.getElem?_cons_zero, List.getElem?_cons_succ, Bool.false_eq_true, not_true_eq_false, not_false_eq_true, List.contains_cons, List.contains_nil, Nat.reduceBEq, Bool.true_or, Bool.false_or, Bool.or_true, List.set_cons_zero, List.set_cons_succ, List.length_cons, List.length_nil, isLd, Bool.true_and, Bool.false_and, Bool.and_true, Bool.and_false, hgt]
    refine ⟨C, C, rfl, rfl, Nat.le_refl _, by omega, by omega, fun bz hbz => ?_⟩
    rw [hz]
    have sz := Sub.put hbz ⟨(rowL C fun _ => 0).map I64, true⟩
    have hI0 : IntS (put G bz ⟨(rowL C fun _ => 0).map I64, true⟩) (some ⟨bz, 0, none⟩) C (rowL C fun _ => 0) := by
      have := blk_ints (xs := rowL C fun _ => 0) (put_same G bz ⟨(rowL C fun _ => 0).map I64, true⟩)
      rwa [rowL_len] at this
    have hw1 := h.up sz
    have hO1 := hO.sub sz
    have kd1 := rd_sub (sz.del2 b) k10
    have hgt1 := hw1.get ht
    revert sz hI0 hw1 hO1 kd1 hgt1
    generalize put G bz ⟨(rowL C fun _ => 0).map I64, true⟩ = G1
    intro sz hI0 hw1 hO1 kd1 hgt1
    simp (maxSteps := 300000) (disch := omega) only [gs, gs2, gs3, ↓reduceIte, Nat.reduceEqDiff, Nat.mul_one, Nat.add_zero, Nat.zero_add, Nat.zero_mul, Int.toNat_natCast, Int.reduceToNat, Nat.reduceMul, Nat.reduceAdd, decide_true, decide_false, Bool.not_true, Bool.not_false, true_and, and_true, List.map_cons, List.map_nil, List.nil_append, List.cons_append, List.append_nil, Option.map_some, Option.bind_some, List.getElem?_cons_zero, List.getElem?_cons_succ, Bool.false_eq_true, not_true_eq_false, not_false_eq_true, List.contains_cons, List.contains_nil, Nat.reduceBEq, Bool.true_or, Bool.false_or, Bool.or_true, List.set_cons_zero, List.set_cons_succ, List.length_cons, List.length_nil, isLd, Bool.true_and, Bool.false_and, Bool.and_true, Bool.and_false, hgt1]
    refine key G1 bz sz hI0 fun G2 A3 c3 hN => ?_
    simp (maxSteps := 300000) (disch := omega) only [gs, gs2, gs3, ↓reduceIte, Nat.reduceEqDiff, Nat.mul_one, Nat.add_zero, Nat.zero_add, Nat.zero_mul, Int.toNat_natCast, Int.reduceToNat, Nat.reduceMul, Nat.reduceAdd, decide_true, decide_false, Bool.not_true, Bool.not_false, true_and, and_true, List.map_cons, List.map_nil, List.nil_append, List.cons_append, List.append_nil, Option.map_some, Option.bind_some, List.getElem?_cons_zero, List.getElem?_cons_succ, Bool.false_eq_true, not_true_eq_false, not_false_eq_true, List.contains_cons, List.contains_nil, Nat.reduceBEq, Bool.true_or, Bool.false_or, Bool.or_true, List.set_cons_zero, List.set_cons_succ, List.length_cons, List.length_nil, isLd, Bool.true_and, Bool.false_and, Bool.and_true, Bool.and_false, e0]
    have hO2 := hO1.sub hN.sub
    have hZ1 : ∀ a, Ap = some a → ∃ e, G1 a.block = some e := fun a ha => by
      rcases hO1 with ⟨h0, _⟩ | ⟨x, r, h0, h1, _⟩
      · rw [h0] at ha; cases ha
      · rw [h0] at ha; cases ha; exact ⟨_, h1⟩
    refine (hw1.up hN.sub).st ht hda (New.del (xs := rowL C fun j => (g t j * invF (g t k) p) % p) (hN.cast rfl (rowL_len _ _).symm) hw1.blk hZ1) fun G3 hw3 hdel _ => ?_
    rw [← setr_scl] at hw3
    have kd3 : rd (del G3 b) (some ⟨b10, 0, none⟩) = some (.int .i64 (k : Int)) := by rw [hdel]; exact rd_sub (hN.sub.del2 b) kd1
    have hO3 : Own G3 Ap cq (piv.map I64) 1 piv.length := (hO2.del hda).sub (by rw [← hdel]; exact Gh.Sub.del _ _)
    have hZ3 : ∀ a, Ap = some a → ∃ e, (del G3 b) a.block = some e := fun a ha => by
      rcases hO3 with ⟨h0, _⟩ | ⟨x, r, h0, h1, _⟩
      · rw [h0] at ha; cases ha
      · have := hda a ha
        rw [h0] at ha; cases ha; exact ⟨_, by rw [del_ne _ this]; exact h1⟩
    simp (maxSteps := 300000) (disch := omega) only [gs, gs2, gs3, ↓reduceIte, Nat.reduceEqDiff, Nat.mul_one, Nat.add_zero, Nat.zero_add, Nat.zero_mul, Int.toNat_natCast, Int.reduceToNat, Nat.reduceMul, Nat.reduceAdd, decide_true, decide_false, Bool.not_true, Bool.not_false, true_and, and_true, List.map_cons, List.map_nil, List.nil_append, List.cons_append, List.append_nil, Option.map_some, Option.bind_some, List.getElem?_cons_zero, List.getElem?_cons_succ, Bool.false_eq_true, not_true_eq_false, not_false_eq_true, List.contains_cons, List.contains_nil, Nat.reduceBEq, Bool.true_or, Bool.false_or, Bool.or_true, List.set_cons_zero, List.set_cons_succ, List.length_cons, List.length_nil, isLd, Bool.true_and, Bool.false_and, Bool.and_true, Bool.and_false, e0]
    refine el_l0 (D := del G3 b) (cp := cp) (h := scl g t (invF (g t k) p) p) (t := t) (k := k) hw3.all hda hZ3 hR hC (hr.scl (by omega) _ _) hp ht hk kd3 (by simp (maxSteps := 300000) (disch := omega) only [gs, gs2, gs3, ↓reduceIte, Nat.reduceEqDiff, Nat.mul_one, Nat.add_zero, Nat.zero_add, Nat.zero_mul, Int.toNat_natCast, Int.reduceToNat, Nat.reduceMul, Nat.reduceAdd, decide_true, decide_false, Bool.not_true, Bool.not_false, true_and, and_true, List.map_cons, List.map_nil, List.nil_append, List.cons_append, List.append_nil, Option.map_some, Option.bind_some, List.getElem?_cons_zero, List.getElem?_cons_succ, Bool.false_eq_true, not_true_eq_false, not_false_eq_true, List.contains_cons, List.contains_nil, Nat.reduceBEq, Bool.true_or, Bool.false_or, Bool.or_true, List.set_cons_zero, List.set_cons_succ, List.length_cons, List.length_nil, isLd, Bool.true_and, Bool.false_and, Bool.and_true, Bool.and_false, e0]) (by simp (maxSteps := 300000) (disch := omega) only [gs, gs2, gs3, ↓reduceIte, Nat.reduceEqDiff, Nat.mul_one, Nat.add_zero, Nat.zero_add, Nat.zero_mul, Int.toNat_natCast, Int.reduceToNat, Nat.reduceMul, Nat.reduceAdd, decide_true, decide_false, Bool.not_true, Bool.not_false, true_and, and_true, List.map_cons, List.map_nil, List.nil_append, List.cons_append, List.append_nil, Option.map_some, Option.bind_some, List.getElem?_cons_zero, List.getElem?_cons_succ, Bool.false_eq_true, not_true_eq_false, not_false_eq_true, List.contains_cons, List.contains_nil, Nat.reduceBEq, Bool.true_or, Bool.false_or, Bool.or_true, List.set_cons_zero, List.set_cons_succ, List.length_cons, List.length_nil, isLd, Bool.true_and, Bool.false_and, Bool.and_true, Bool.and_false, e2]) (by simp (maxSteps := 300000) (disch := omega) only [gs, gs2, gs3, ↓reduceIte, Nat.reduceEqDiff, Nat.mul_one, Nat.add_zero, Nat.zero_add, Nat.zero_mul, Int.toNat_natCast, Int.reduceToNat, Nat.reduceMul, Nat.reduceAdd, decide_true, decide_false, Bool.not_true, Bool.not_false, true_and, and_true, List.map_cons, List.map_nil, List.nil_append, List.cons_append, List.append_nil, Option.map_some, Option.bind_some, List.getElem?_cons_zero, List.getElem?_cons_succ, Bool.false_eq_true, not_true_eq_false, not_false_eq_true, List.contains_cons, List.contains_nil, Nat.reduceBEq, Bool.true_or, Bool.false_or, Bool.or_true, List.set_cons_zero, List.set_cons_succ, List.length_cons, List.length_nil, isLd, Bool.true_and, Bool.false_and, Bool.and_true, Bool.and_false, e10]) (by simp (maxSteps := 300000) (disch := omega) only [gs, gs2, gs3, ↓reduceIte, Nat.reduceEqDiff, Nat.mul_one, Nat.add_zero, Nat.zero_add, Nat.zero_mul, Int.toNat_natCast, Int.reduceToNat, Nat.reduceMul, Nat.reduceAdd, decide_true, decide_false, Bool.not_true, Bool.not_false, true_and, and_true, List.map_cons, List.map_nil, List.nil_append, List.cons_append, List.append_nil, Option.map_some, Option.bind_some, List.getElem?_cons_zero, List.getElem?_cons_succ, Bool.false_eq_true, not_true_eq_false, not_false_eq_true, List.contains_cons, List.contains_nil, Nat.reduceBEq, Bool.true_or, Bool.false_or, Bool.or_true, List.set_cons_zero, List.set_cons_succ, List.length_cons, List.length_nil, isLd, Bool.true_and, Bool.false_and, Bool.and_true, Bool.and_false, e11]) (by simp (maxSteps := 300000) (disch := omega) only [gs, gs2, gs3, ↓reduceIte, Nat.reduceEqDiff, Nat.mul_one, Nat.add_zero, Nat.zero_add, Nat.zero_mul, Int.toNat_natCast, Int.reduceToNat, Nat.reduceMul, Nat.reduceAdd, decide_true, decide_false, Bool.not_true, Bool.not_false, true_and, and_true, List.map_cons, List.map_nil, List.nil_append, List.cons_append, List.append_nil, Option.map_some, Option.bind_some, List.getElem?_cons_zero, List.getElem?_cons_succ, Bool.false_eq_true, not_true_eq_false, not_false_eq_true, List.contains_cons, List.contains_nil, Nat.reduceBEq, Bool.true_or, Bool.false_or, Bool.or_true, List.set_cons_zero, List.set_cons_succ, List.length_cons, List.length_nil, isLd, Bool.true_and, Bool.false_and, Bool.and_true, Bool.and_false, e0]) (by simp (maxSteps := 300000) (disch := omega) only [gs, gs2, gs3, ↓reduceIte, Nat.reduceEqDiff, Nat.mul_one, Nat.add_zero, Nat.zero_add, Nat.zero_mul, Int.toNat_natCast, Int.reduceToNat, Nat.reduceMul, Nat.reduceAdd, decide_true, decide_false, Bool.not_true, Bool.not_false, true_and, and_true, List.map_cons, List.map_nil, List.nil_append, List.cons_append, List.append_nil, Option.map_some, Option.bind_some, List.getElem?_cons_zero, List.getElem?_cons_succ, Bool.false_eq_true, not_true_eq_false, not_false_eq_true, List.contains_cons, List.contains_nil, Nat.reduceBEq, Bool.true_or, Bool.false_or, Bool.or_true, List.set_cons_zero, List.set_cons_succ, List.length_cons, List.length_nil, isLd, Bool.true_and, Bool.false_and, Bool.and_true, Bool.and_false]) (by simp (maxSteps := 300000) (disch := omega) only [gs, gs2, gs3, ↓reduceIte, Nat.reduceEqDiff, Nat.mul_one, Nat.add_zero, Nat.zero_add, Nat.zero_mul, Int.toNat_natCast, Int.reduceToNat, Nat.reduceMul, Nat.reduceAdd, decide_true, decide_false, Bool.not_true, Bool.not_false, true_and, and_true, List.map_cons, List.map_nil, List.nil_append, List.cons_append, List.append_nil, Option.map_some, Option.bind_some, List.getElem?_cons_zero, List.getElem?_cons_succ, Bool.false_eq_true, not_true_eq_false, not_false_eq_true, List.contains_cons, List.contains_nil, Nat.reduceBEq, Bool.true_or, Bool.false_or, Bool.or_true, List.set_cons_zero, List.set_cons_succ, List.length_cons, List.length_nil, isLd, Bool.true_and, Bool.false_and, Bool.and_true, Bool.and_false] <;> rfl) fun T' G4 A' c' hT hw4 => ?_
    have hO4 : Own G4 Ap cq (piv.map I64) 1 piv.length := (hO3.del hda).sub hw4.sub
    have q4 := rd_sub hw4.sub kd3
    have f0 : T' 0 = .slice (some ⟨b, 0, none⟩) R cp := (hT 0 (by omega)).trans (by simp (maxSteps := 300000) (disch := omega) only [gs, gs2, gs3, ↓reduceIte, Nat.reduceEqDiff, Nat.mul_one, Nat.add_zero, Nat.zero_add, Nat.zero_mul, Int.toNat_natCast, Int.reduceToNat, Nat.reduceMul, Nat.reduceAdd, decide_true, decide_false, Bool.not_true, Bool.not_false, true_and, and_true, List.map_cons, List.map_nil, List.nil_append, List.cons_append, List.append_nil, Option.map_some, Option.bind_some, List.getElem?_cons_zero, List.getElem?_cons_succ, Bool.false_eq_true, not_true_eq_false, not_false_eq_true, List.contains_cons, List.contains_nil, Nat.reduceBEq, Bool.true_or, Bool.false_or, Bool.or_true, List.set_cons_zero, List.set_cons_succ, List.length_cons, List.length_nil, isLd, Bool.true_and, Bool.false_and, Bool.and_true, Bool.and_false, e0])
    have f1 : T' 1 = .int .i64 C := (hT 1 (by omega)).trans (by simp (maxSteps := 300000) (disch := omega) only [gs, gs2, gs3, ↓reduceIte, Nat.reduceEqDiff, Nat.mul_one, Nat.add_zero, Nat.zero_add, Nat.zero_mul, Int.toNat_natCast, Int.reduceToNat, Nat.reduceMul, Nat.reduceAdd, decide_true, decide_false, Bool.not_true, Bool.not_false, true_and, and_true, List.map_cons, List.map_nil, List.nil_append, List.cons_append, List.append_nil, Option.map_some, Option.bind_some, List.getElem?_cons_zero, List.getElem?_cons_succ, Bool.false_eq_true, not_true_eq_false, not_false_eq_true, List.contains_cons, List.contains_nil, Nat.reduceBEq, Bool.true_or, Bool.false_or, Bool.or_true, List.set_cons_zero, List.set_cons_succ, List.length_cons, List.length_nil, isLd, Bool.true_and, Bool.false_and, Bool.and_true, Bool.and_false, e1])
    have f2 : T' 2 = .int .i64 p := (hT 2 (by omega)).trans (by simp (maxSteps := 300000) (disch := omega) only [gs, gs2, gs3, ↓reduceIte, Nat.reduceEqDiff, Nat.mul_one, Nat.add_zero, Nat.zero_add, Nat.zero_mul, Int.toNat_natCast, Int.reduceToNat, Nat.reduceMul, Nat.reduceAdd, decide_true, decide_false, Bool.not_true, Bool.not_false, true_and, and_true, List.map_cons, List.map_nil, List.nil_append, List.cons_append, List.append_nil, Option.map_some, Option.bind_some, List.getElem?_cons_zero, List.getElem?_cons_succ, Bool.false_eq_true, not_true_eq_false, not_false_eq_true, List.contains_cons, List.contains_nil, Nat.reduceBEq, Bool.true_or, Bool.false_or, Bool.or_true, List.set_cons_zero, List.set_cons_succ, List.length_cons, List.length_nil, isLd, Bool.true_and, Bool.false_and, Bool.and_true, Bool.and_false, e2])
    have f8 : T' 8 = .slice Ap piv.length cq := (hT 8 (by omega)).trans (by simp (maxSteps := 300000) (disch := omega) only [gs, gs2, gs3, ↓reduceIte, Nat.reduceEqDiff, Nat.mul_one, Nat.add_zero, Nat.zero_add, Nat.zero_mul, Int.toNat_natCast, Int.reduceToNat, Nat.reduceMul, Nat.reduceAdd, decide_true, decide_false, Bool.not_true, Bool.not_false, true_and, and_true, List.map_cons, List.map_nil, List.nil_append, List.cons_append, List.append_nil, Option.map_some, Option.bind_some, List.getElem?_cons_zero, List.getElem?_cons_succ, Bool.false_eq_true, not_true_eq_false, not_false_eq_true, List.contains_cons, List.contains_nil, Nat.reduceBEq, Bool.true_or, Bool.false_or, Bool.or_true, List.set_cons_zero, List.set_cons_succ, List.length_cons, List.length_nil, isLd, Bool.true_and, Bool.false_and, Bool.and_true, Bool.and_false, e8])
    have f9 : T' 9 = .int .i64 (det * g t k % p) := (hT 9 (by omega)).trans (by simp (maxSteps := 300000) (disch := omega) only [gs, gs2, gs3, ↓reduceIte, Nat.reduceEqDiff, Nat.mul_one, Nat.add_zero, Nat.zero_add, Nat.zero_mul, Int.toNat_natCast, Int.reduceToNat, Nat.reduceMul, Nat.reduceAdd, decide_true, decide_false, Bool.not_true, Bool.not_false, true_and, and_true, List.map_cons, List.map_nil, List.nil_append, List.cons_append, List.append_nil, Option.map_some, Option.bind_some, List.getElem?_cons_zero, List.getElem?_cons_succ, Bool.false_eq_true, not_true_eq_false, not_false_eq_true, List.contains_cons, List.contains_nil, Nat.reduceBEq, Bool.true_or, Bool.false_or, Bool.or_true, List.set_cons_zero, List.set_cons_succ, List.length_cons, List.length_nil, isLd, Bool.true_and, Bool.false_and, Bool.and_true, Bool.and_false])
    have f10 : T' 10 = .pointer (some ⟨b10, 0, none⟩) := (hT 10 (by omega)).trans (by simp (maxSteps := 300000) (disch := omega) only [gs, gs2, gs3, ↓reduceIte, Nat.reduceEqDiff, Nat.mul_one, Nat.add_zero, Nat.zero_add, Nat.zero_mul, Int.toNat_natCast, Int.reduceToNat, Nat.reduceMul, Nat.reduceAdd, decide_true, decide_false, Bool.not_true, Bool.not_false, true_and, and_true, List.map_cons, List.map_nil, List.nil_append, List.cons_append, List.append_nil, Option.map_some, Option.bind_some, List.getElem?_cons_zero, List.getElem?_cons_succ, Bool.false_eq_true, not_true_eq_false, not_false_eq_true, List.contains_cons, List.contains_nil, Nat.reduceBEq, Bool.true_or, Bool.false_or, Bool.or_true, List.set_cons_zero, List.set_cons_succ, List.length_cons, List.length_nil, isLd, Bool.true_and, Bool.false_and, Bool.and_true, Bool.and_false, e10])
    have f16 : T' 16 = .int .i64 C := (hT 16 (by omega)).trans (by simp (maxSteps := 300000) (disch := omega) only [gs, gs2, gs3, ↓reduceIte, Nat.reduceEqDiff, Nat.mul_one, Nat.add_zero, Nat.zero_add, Nat.zero_mul, Int.toNat_natCast, Int.reduceToNat, Nat.reduceMul, Nat.reduceAdd, decide_true, decide_false, Bool.not_true, Bool.not_false, true_and, and_true, List.map_cons, List.map_nil, List.nil_append, List.cons_append, List.append_nil, Option.map_some, Option.bind_some, List.getElem?_cons_zero, List.getElem?_cons_succ, Bool.false_eq_true, not_true_eq_false, not_false_eq_true, List.contains_cons, List.contains_nil, Nat.reduceBEq, Bool.true_or, Bool.false_or, Bool.or_true, List.set_cons_zero, List.set_cons_succ, List.length_cons, List.length_nil, isLd, Bool.true_and, Bool.false_and, Bool.and_true, Bool.and_false, e16])
    have f17 : T' 17 = .int .i64 k := (hT 17 (by omega)).trans (by simp (maxSteps := 300000) (disch := omega) only [gs, gs2, gs3, ↓reduceIte, Nat.reduceEqDiff, Nat.mul_one, Nat.add_zero, Nat.zero_add, Nat.zero_mul, Int.toNat_natCast, Int.reduceToNat, Nat.reduceMul, Nat.reduceAdd, decide_true, decide_false, Bool.not_true, Bool.not_false, true_and, and_true, List.map_cons, List.map_nil, List.nil_append, List.cons_append, List.append_nil, Option.map_some, Option.bind_some, List.getElem?_cons_zero, List.getElem?_cons_succ, Bool.false_eq_true, not_true_eq_false, not_false_eq_true, List.contains_cons, List.contains_nil, Nat.reduceBEq, Bool.true_or, Bool.false_or, Bool.or_true, List.set_cons_zero, List.set_cons_succ, List.length_cons, List.length_nil, isLd, Bool.true_and, Bool.false_and, Bool.and_true, Bool.and_false, e17])
    clear hT
    have hwH : Rw H G4 b A' c' R C (clr (scl g t (invF (g t k) p) p) t k p) rest Ap := ⟨(hw3.sub.in_del hw3.nb).trans hw4.sub, hw3.nb, hw4.blk, hw4.row⟩
    simp (maxSteps := 300000) (disch := omega) only [gs, gs2, gs3, ↓reduceIte, Nat.reduceEqDiff, Nat.mul_one, Nat.add_zero, Nat.zero_add, Nat.zero_mul, Int.toNat_natCast, Int.reduceToNat, Nat.reduceMul, Nat.reduceAdd, decide_true, decide_false, Bool.not_true, Bool.not_false, true_and, and_true, List.map_cons, List.map_nil, List.nil_append, List.cons_append, List.append_nil, Option.map_some, Option.bind_some, List.getElem?_cons_zero, List.getElem?_cons_succ, Bool.false_eq_true, not_true_eq_false, not_false_eq_true, List.contains_cons, List.contains_nil, Nat.reduceBEq, Bool.true_or, Bool.false_or, Bool.or_true, List.set_cons_zero, List.set_cons_succ, List.length_cons, List.length_nil, isLd, Bool.true_and, Bool.false_and, Bool.and_true, Bool.and_false, f0, f1, f2, f8, f9, f10, f16, f17, q4, gBs]
    refine ⟨by intro v hv; simp at hv; subst hv; rfl, fun b15 hb15 => ?_⟩
    refine ap_own (hO4.sub (Sub.put hb15 _)) (cells_one [.int .i64 (k : Int)] true) rfl (by intro v hv; simp at hv; subst hv; rfl) rfl (by omega) (by omega) (by omega) fun G5 A5 c5 hO5 keep => ?_
    obtain ⟨s5, o5⟩ := keep _ (Sub.wo _ _) (Off.wo _ _)
    obtain ⟨hw5, oH5, d5⟩ := (hwH.up (Sub.put hb15 _)).rez hda hOf s5 o5
    simp (maxSteps := 300000) (disch := omega) only [gs, gs2, gs3, ↓reduceIte, Nat.reduceEqDiff, Nat.mul_one, Nat.add_zero, Nat.zero_add, Nat.zero_mul, Int.toNat_natCast, Int.reduceToNat, Nat.reduceMul, Nat.reduceAdd, decide_true, decide_false, Bool.not_true, Bool.not_false, true_and, and_true, List.map_cons, List.map_nil, List.nil_append, List.cons_append, List.append_nil, Option.map_some, Option.bind_some, List.getElem?_cons_zero, List.getElem?_cons_succ, Bool.false_eq_true, not_true_eq_false, not_false_eq_true, List.contains_cons, List.contains_nil, Nat.reduceBEq, Bool.true_or, Bool.false_or, Bool.or_true, List.set_cons_zero, List.set_cons_succ, List.length_cons, List.length_nil, isLd, Bool.true_and, Bool.false_and, Bool.and_true, Bool.and_false, f0, f1, f2, f8, f9, f10, f16, f17]
    exact hQ _ _ A' c' A5 c5 (by simp (maxSteps := 300000) (disch := omega) only [gs, gs2, gs3, ↓reduceIte, Nat.reduceEqDiff, Nat.mul_one, Nat.add_zero, Nat.zero_add, Nat.zero_mul, Int.toNat_natCast, Int.reduceToNat, Nat.reduceMul, Nat.reduceAdd, decide_true, decide_false, Bool.not_true, Bool.not_false, true_and, and_true, List.map_cons, List.map_nil, List.nil_append, List.cons_append, List.append_nil, Option.map_some, Option.bind_some, List.getElem?_cons_zero, List.getElem?_cons_succ, Bool.false_eq_true, not_true_eq_false, not_false_eq_true, List.contains_cons, List.contains_nil, Nat.reduceBEq, Bool.true_or, Bool.false_or, Bool.or_true, List.set_cons_zero, List.set_cons_succ, List.length_cons, List.length_nil, isLd, Bool.true_and, Bool.false_and, Bool.and_true, Bool.and_false, f0]) (by simp (maxSteps := 300000) (disch := omega) only [gs, gs2, gs3, ↓reduceIte, Nat.reduceEqDiff, Nat.mul_one, Nat.add_zero, Nat.zero_add, Nat.zero_mul, Int.toNat_natCast, Int.reduceToNat, Nat.reduceMul, Nat.reduceAdd, decide_true, decide_false, Bool.not_true, Bool.not_false, true_and, and_true, List.map_cons, List.map_nil, List.nil_append, List.cons_append, List.append_nil, Option.map_some, Option.bind_some, List.getElem?_cons_zero, List.getElem?_cons_succ, Bool.false_eq_true, not_true_eq_false, not_false_eq_true, List.contains_cons, List.contains_nil, Nat.reduceBEq, Bool.true_or, Bool.false_or, Bool.or_true, List.set_cons_zero, List.set_cons_succ, List.length_cons, List.length_nil, isLd, Bool.true_and, Bool.false_and, Bool.and_true, Bool.and_false, f1]) (by simp (maxSteps := 300000) (disch := omega) only [gs, gs2, gs3, ↓reduceIte, Nat.reduceEqDiff, Nat.mul_one, Nat.add_zero, Nat.zero_add, Nat.zero_mul, Int.toNat_natCast, Int.reduceToNat, Nat.reduceMul, Nat.reduceAdd, decide_true, decide_false, Bool.not_true, Bool.not_false, true_and, and_true, List.map_cons, List.map_nil, List.nil_append, List.cons_append, List.append_nil, Option.map_some, Option.bind_some, List.getElem?_cons_zero, List.getElem?_cons_succ, Bool.false_eq_true, not_true_eq_false, not_false_eq_true, List.contains_cons, List.contains_nil, Nat.reduceBEq, Bool.true_or, Bool.false_or, Bool.or_true, List.set_cons_zero, List.set_cons_succ, List.length_cons, List.length_nil, isLd, Bool.true_and, Bool.false_and, Bool.and_true, Bool.and_false, f2]) (by simp (maxSteps := 300000) (disch := omega) only [gs, gs2, gs3, ↓reduceIte, Nat.reduceEqDiff, Nat.mul_one, Nat.add_zero, Nat.zero_add, Nat.zero_mul, Int.toNat_natCast, Int.reduceToNat, Nat.reduceMul, Nat.reduceAdd, decide_true, decide_false, Bool.not_true, Bool.not_false, true_and, and_true, List.map_cons, List.map_nil, List.nil_append, List.cons_append, List.append_nil, Option.map_some, Option.bind_some, List.getElem?_cons_zero, List.getElem?_cons_succ, Bool.false_eq_true, not_true_eq_false, not_false_eq_true, List.contains_cons, List.contains_nil, Nat.reduceBEq, Bool.true_or, Bool.false_or, Bool.or_true, List.set_cons_zero, List.set_cons_succ, List.length_cons, List.length_nil, isLd, Bool.true_and, Bool.false_and, Bool.and_true, Bool.and_false]) (by simp (maxSteps := 300000) (disch := omega) only [gs, gs2, gs3, ↓reduceIte, Nat.reduceEqDiff, Nat.mul_one, Nat.add_zero, Nat.zero_add, Nat.zero_mul, Int.toNat_natCast, Int.reduceToNat, Nat.reduceMul, Nat.reduceAdd, decide_true, decide_false, Bool.not_true, Bool.not_false, true_and, and_true, List.map_cons, List.map_nil, List.nil_append, List.cons_append, List.append_nil, Option.map_some, Option.bind_some, List.getElem?_cons_zero, List.getElem?_cons_succ, Bool.false_eq_true, not_true_eq_false, not_false_eq_true, List.contains_cons, List.contains_nil, Nat.reduceBEq, Bool.true_or, Bool.false_or, Bool.or_true, List.set_cons_zero, List.set_cons_succ, List.length_cons, List.length_nil, isLd, Bool.true_and, Bool.false_and, Bool.and_true, Bool.and_false, f9]) (by simp (maxSteps := 300000) (disch := omega) only [gs, gs2, gs3, ↓reduceIte, Nat.reduceEqDiff, Nat.mul_one, Nat.add_zero, Nat.zero_add, Nat.zero_mul, Int.toNat_natCast, Int.reduceToNat, Nat.reduceMul, Nat.reduceAdd, decide_true, decide_false, Bool.not_true, Bool.not_false, true_and, and_true, List.map_cons, List.map_nil, List.nil_append, List.cons_append, List.append_nil, Option.map_some, Option.bind_some, List.getElem?_cons_zero, List.getElem?_cons_succ, Bool.false_eq_true, not_true_eq_false, not_false_eq_true, List.contains_cons, List.contains_nil, Nat.reduceBEq, Bool.true_or, Bool.false_or, Bool.or_true, List.set_cons_zero, List.set_cons_succ, List.length_cons, List.length_nil, isLd, Bool.true_and, Bool.false_and, Bool.and_true, Bool.and_false, f16]) (by simp (maxSteps := 300000) (disch := omega) only [gs, gs2, gs3, ↓reduceIte, Nat.reduceEqDiff, Nat.mul_one, Nat.add_zero, Nat.zero_add, Nat.zero_mul, Int.toNat_natCast, Int.reduceToNat, Nat.reduceMul, Nat.reduceAdd, decide_true, decide_false, Bool.not_true, Bool.not_false, true_and, and_true, List.map_cons, List.map_nil, List.nil_append, List.cons_append, List.append_nil, Option.map_some, Option.bind_some, List.getElem?_cons_zero, List.getElem?_cons_succ, Bool.false_eq_true, not_true_eq_false, not_false_eq_true, List.contains_cons, List.contains_nil, Nat.reduceBEq, Bool.true_or, Bool.false_or, Bool.or_true, List.set_cons_zero, List.set_cons_succ, List.length_cons, List.length_nil, isLd, Bool.true_and, Bool.false_and, Bool.and_true, Bool.and_false, f17]) hw5 (hO5.cast (by simp [I64]) rfl) oH5 d5
abbrev elSwap : GCode := .seq (.reg c_impl_eliminate_10) (.cond (tt 30) (.seq (.dreg c_impl_eliminate_11) (.reg c_impl_eliminate_12)) .skip)
theorem el_swap {H G : GH} {b b10 cp cq t i k : Nat} {A : Nat → Option Addr} {c : Nat → Nat} {Ap : Option Addr} {R C n : Nat} {f : Int → Int → Int} {rest : List Value} {p det : Int} {cs : List Value} {T : Nat → Value} {Q : Cont} {X : GCode} (h : Rw H G b A c R C f rest Ap) (hR : R < 2 ^ 10) (hp : 1 < p ∧ p ≤ 2 ^ 30)
    (ht : t ≤ i) (hi : i < R) (hd : 0 ≤ det ∧ det < p) (k10 : rd (del G b) (some ⟨b10, 0, none⟩) = some (.int .i64 (k : Int))) (hO : Own G Ap cq cs 1 n) (hda : ∀ a, Ap = some a → a.block ≠ b)
    (e0 : T 0 = .slice (some ⟨b, 0, none⟩) R cp) (e1 : T 1 = .int .i64 C) (e2 : T 2 = .int .i64 p) (e8 : T 8 = .slice Ap n cq) (e9 : T 9 = .int .i64 det) (e10 : T 10 = .pointer (some ⟨b10, 0, none⟩)) (e11 : T 11 = .int .i64 t) (e12 : T 12 = .int .i64 ((i - t : Nat) : Int)) (e16 : T 16 = .int .i64 C) (e17 : T 17 = .int .i64 k)
    (hX : ∀ T' G' A' c', T' 0 = .slice (some ⟨b, 0, none⟩) R cp → T' 1 = .int .i64 C → T' 2 = .int .i64 p → T' 8 = .slice Ap n cq → T' 9 = .int .i64 (if i = t then det else (-det) % p) → T' 10 = .pointer (some ⟨b10, 0, none⟩) → T' 11 = .int .i64 t → T' 16 = .int .i64 C → T' 17 = .int .i64 k →
      Rw H G' b A' c' R C (swp f t i) rest Ap → Own G' Ap cq cs 1 n → rd (del G' b) (some ⟨b10, 0, none⟩) = some (.int .i64 (k : Int)) → gW Try.prog X Q T' G') : gW Try.prog (.seq elSwap X) Q T G := by
  simp (maxSteps := 300000) (disch := omega) only [gs, gs2, gs3, ↓reduceIte, Nat.reduceEqDiff, Nat.mul_one, Nat.add_zero, Nat.zero_add, Nat.zero_mul, Int.toNat_natCast, Int.reduceToNat, Nat.reduceMul, Nat.reduceAdd, decide_true, decide_false, Bool.not_true, Bool.not_false, true_and, and_true, List.map_cons, List.map_nil, List.nil_append, List.cons_append, List.append_nil, Option.map_some, Option.bind_some, List.getElem?_cons_zero, List.getElem?_cons_succ, Bool.false_eq_true, not_true_eq_false, not_false_eq_true, List.contains_cons, List.contains_nil, Nat.reduceBEq, Bool.true_or, Bool.false_or, Bool.or_true, List.set_cons_zero, List.set_cons_succ, List.length_cons, List.length_nil, isLd, Bool.true_and, Bool.false_and, Bool.and_true, Bool.and_false, e12]
  by_cases hit : i = t
  · subst hit
    simp (maxSteps := 300000) (disch := omega) only [gs, gs2, gs3, ↓reduceIte, Nat.reduceEqDiff, Nat.mul_one, Nat.add_zero, Nat.zero_add, Nat.zero_mul, Int.toNat_natCast, Int.reduceToNat, Nat.reduceMul, Nat.reduceAdd, decide_true, decide_false, Bool.not_true, Bool.not_false, true_and, and_true, List.map_cons, List.map_nil, List.nil_append, List.cons_append, List.append_nil, Option.map_some, Option.bind_some, List.getElem?_cons_zero, List.getElem?_cons_succ, Bool.false_eq_true, not_true_eq_false, not_false_eq_true, List.contains_cons, List.contains_nil, Nat.reduceBEq, Bool.true_or, Bool.false_or, Bool.or_true, List.set_cons_zero, List.set_cons_succ, List.length_cons, List.length_nil, isLd, Bool.true_and, Bool.false_and, Bool.and_true, Bool.and_false, show ((0 : Int) < ((i - i : Nat) : Int)) = False from eq_false (by omega)]
    exact hX _ G A c (by simp (maxSteps := 300000) (disch := omega) only [gs, gs2, gs3, ↓reduceIte, Nat.reduceEqDiff, Nat.mul_one, Nat.add_zero, Nat.zero_add, Nat.zero_mul, Int.toNat_natCast, Int.reduceToNat, Nat.reduceMul, Nat.reduceAdd, decide_true, decide_false, Bool.not_true, Bool.not_false, true_and, and_true, List.map_cons, List.map_nil, List.nil_append, List.cons_append, List.append_nil, Option.map_some, Option.bind_some, List.getElem?_cons_zero, List.getElem?_cons_succ, Bool.false_eq_true, not_true_eq_false, not_false_eq_true, List.contains_cons, List.contains_nil, Nat.reduceBEq, Bool.true_or, Bool.false_or, Bool.or_true, List.set_cons_zero, List.set_cons_succ, List.length_cons, List.length_nil, isLd, Bool.true_and, Bool.false_and, Bool.and_true, Bool.and_false, e0]) (by simp (maxSteps := 300000) (disch := omega) only [gs, gs2, gs3, ↓reduceIte, Nat.reduceEqDiff, Nat.mul_one, Nat.add_zero, Nat.zero_add, Nat.zero_mul, Int.toNat_natCast, Int.reduceToNat, Nat.reduceMul, Nat.reduceAdd, decide_true, decide_false, Bool.not_true, Bool.not_false, true_and, and_true, List.map_cons, List.map_nil, List.nil_append, List.cons_append, List.append_nil, Option.map_some, Option.bind_some, List.getElem?_cons_zero, List.getElem?_cons_succ, Bool.false_eq_true, not_true_eq_false, not_false_eq_true, List.contains_cons, List.contains_nil, Nat.reduceBEq, Bool.true_or, Bool.false_or, Bool.or_true, List.set_cons_zero, List.set_cons_succ, List.length_cons, List.length_nil, isLd, Bool.true_and, Bool.false_and, Bool.and_true, Bool.and_false, e1]) (by simp (maxSteps := 300000) (disch := omega) only [gs, gs2, gs3, ↓reduceIte, Nat.reduceEqDiff, Nat.mul_one, Nat.add_zero, Nat.zero_add, Nat.zero_mul, Int.toNat_natCast, Int.reduceToNat, Nat.reduceMul, Nat.reduceAdd, decide_true, decide_false, Bool.not_true, Bool.not_false, true_and, and_true, List.map_cons, List.map_nil, List.nil_append, List.cons_append, List.append_nil, Option.map_some, Option.bind_some, List.getElem?_cons_zero, List.getElem?_cons_succ, Bool.false_eq_true, not_true_eq_false, not_false_eq_true, List.contains_cons, List.contains_nil, Nat.reduceBEq, Bool.true_or, Bool.false_or, Bool.or_true, List.set_cons_zero, List.set_cons_succ, List.length_cons, List.length_nil, isLd, Bool.true_and, Bool.false_and, Bool.and_true, Bool.and_false, e2]) (by simp (maxSteps := 300000) (disch := omega) only [gs, gs2, gs3, ↓reduceIte, Nat.reduceEqDiff, Nat.mul_one, Nat.add_zero, Nat.zero_add, Nat.zero_mul, Int.toNat_natCast, Int.reduceToNat, Nat.reduceMul, Nat.reduceAdd, decide_true, decide_false, Bool.not_true, Bool.not_false, true_and, and_true, List.map_cons, List.map_nil, List.nil_append, List.cons_append, List.append_nil, Option.map_some, Option.bind_some, List.getElem?_cons_zero, List.getElem?_cons_succ, Bool.false_eq_true, not_true_eq_false, not_false_eq_true, List.contains_cons, List.contains_nil, Nat.reduceBEq, Bool.true_or, Bool.false_or, Bool.or_true, List.set_cons_zero, List.set_cons_succ, List.length_cons, List.length_nil, isLd, Bool.true_and, Bool.false_and, Bool.and_true, Bool.and_false, e8]) (by simp (maxSteps := 300000) (disch := omega) only [gs, gs2, gs3, ↓reduceIte, Nat.reduceEqDiff, Nat.mul_one, Nat.add_zero, Nat.zero_add, Nat.zero_mul, Int.toNat_natCast, Int.reduceToNat, Nat.reduceMul, Nat.reduceAdd, decide_true, decide_false, Bool.not_true, Bool.not_false, true_and, and_true, List.map_cons, List.map_nil, List.nil_append, List.cons_append, List.append_nil, Option.map_some, Option.bind_some, List.getElem?_cons_zero, List.getElem?_cons_succ, Bool.false_eq_true, not_true_eq_false, not_false_eq_true, List.contains_cons, List.contains_nil, Nat.reduceBEq, Bool.true_or, Bool.false_or, Bool.or_true, List.set_cons_zero, List.set_cons_succ, List.length_cons, List.length_nil, isLd, Bool.true_and, Bool.false_and, Bool.and_true, Bool.and_false, e9]) (by simp (maxSteps := 300000) (disch := omega) only [gs, gs2, gs3, ↓reduceIte, Nat.reduceEqDiff, Nat.mul_one, Nat.add_zero, Nat.zero_add, Nat.zero_mul, Int.toNat_natCast, Int.reduceToNat, Nat.reduceMul, Nat.reduceAdd, decide_true, decide_false, Bool.not_true, Bool.not_false, true_and, and_true, List.map_cons, List.map_nil, List.nil_append, List.cons_append, List.append_nil, Option.map_some, Option.bind_some, List.getElem?_cons_zero, List.getElem?_cons_succ, Bool.false_eq_true, not_true_eq_false, not_false_eq_true, List.contains_cons, List.contains_nil, Nat.reduceBEq, Bool.true_or, Bool.false_or, Bool.or_true, List.set_cons_zero, List.set_cons_succ, List.length_cons, List.length_nil, isLd, Bool.true_and, Bool.false_and, Bool.and_true, Bool.and_false, e10]) (by simp (maxSteps := 300000) (disch := omega) only [gs, gs2, gs3, ↓reduceIte, Nat.reduceEqDiff, Nat.mul_one, Nat.add_zero, Nat.zero_add, Nat.zero_mul, Int.toNat_natCast, Int.reduceToNat, Nat.reduceMul, Nat.reduceAdd, decide_true, decide_false, Bool.not_true, Bool.not_false, true_and, and_true, List.map_cons, List.map_nil, List.nil_append, List.cons_append, List.append_nil, Option.map_some, Option.bind_some, List.getElem?_cons_zero, List.getElem?_cons_succ, Bool.false_eq_true, not_true_eq_false, not_false_eq_true, List.contains_cons, List.contains_nil, Nat.reduceBEq, Bool.true_or, Bool.false_or, Bool.or_true, List.set_cons_zero, List.set_cons_succ, List.length_cons, List.length_nil, isLd, Bool.true_and, Bool.false_and, Bool.and_true, Bool.and_false, e11]) (by simp (maxSteps := 300000) (disch := omega) only [gs, gs2, gs3, ↓reduceIte, Nat.reduceEqDiff, Nat.mul_one, Nat.add_zero, Nat.zero_add, Nat.zero_mul, Int.toNat_natCast, Int.reduceToNat, Nat.reduceMul, Nat.reduceAdd, decide_true, decide_false, Bool.not_true, Bool.not_false, true_and, and_true, List.map_cons, List.map_nil, List.nil_append, List.cons_append, List.append_nil, Option.map_some, Option.bind_some, List.getElem?_cons_zero, List.getElem?_cons_succ, Bool.false_eq_true, not_true_eq_false, not_false_eq_true, List.contains_cons, List.contains_nil, Nat.reduceBEq, Bool.true_or, Bool.false_or, Bool.or_true, List.set_cons_zero, List.set_cons_succ, List.length_cons, List.length_nil, isLd, Bool.true_and, Bool.false_and, Bool.and_true, Bool.and_false, e16]) (by simp (maxSteps := 300000) (disch := omega) only [gs, gs2, gs3, ↓reduceIte, Nat.reduceEqDiff, Nat.mul_one, Nat.add_zero, Nat.zero_add, Nat.zero_mul, Int.toNat_natCast, Int.reduceToNat, Nat.reduceMul, Nat.reduceAdd, decide_true, decide_false, Bool.not_true, Bool.not_false, true_and, and_true, List.map_cons, List.map_nil, List.nil_append, List.cons_append, List.append_nil, Option.map_some, Option.bind_some, List.getElem?_cons_zero, List.getElem?_cons_succ, Bool.false_eq_true, not_true_eq_false, not_false_eq_true, List.contains_cons, List.contains_nil, Nat.reduceBEq, Bool.true_or, Bool.false_or, Bool.or_true, List.set_cons_zero, List.set_cons_succ, List.length_cons, List.length_nil, isLd, Bool.true_and, Bool.false_and, Bool.and_true, Bool.and_false, e17]) (h.cong fun a j _ _ => by unfold swp; by_cases e : (a : Int) = i <;> simp [e]) hO k10
  have hgt := h.get (show t < R by omega)
  have hgi := h.get hi
  have hti : (t : Int) + ((i - t : Nat) : Int) = i := by omega
  simp (maxSteps := 300000) (disch := omega) only [gs, gs2, gs3, ↓reduceIte, Nat.reduceEqDiff, Nat.mul_one, Nat.add_zero, Nat.zero_add, Nat.zero_mul, Int.toNat_natCast, Int.reduceToNat, Nat.reduceMul, Nat.reduceAdd, decide_true, decide_false, Bool.not_true, Bool.not_false, true_and, and_true, List.map_cons, List.map_nil, List.nil_append, List.cons_append, List.append_nil, Option.map_some, Option.bind_some, List.getElem?_cons_zero, List.getElem?_cons_succ, Bool.false_eq_true, not_true_eq_false, not_false_eq_true, List.contains_cons, List.contains_nil, Nat.reduceBEq, Bool.true_or, Bool.false_or, Bool.or_true, List.set_cons_zero, List.set_cons_succ, List.length_cons, List.length_nil, isLd, Bool.true_and, Bool.false_and, Bool.and_true, Bool.and_false, show ((0 : Int) < ((i - t : Nat) : Int)) = True from eq_true (by omega), e0, e11, e12, hgt, hgi, hti]
  refine h.st (i := t) (by omega) hda (h.row i hi) fun G1 h1 hd1 hd2 => ?_
  simp (maxSteps := 300000) (disch := omega) only [gs, gs2, gs3, ↓reduceIte, Nat.reduceEqDiff, Nat.mul_one, Nat.add_zero, Nat.zero_add, Nat.zero_mul, Int.toNat_natCast, Int.reduceToNat, Nat.reduceMul, Nat.reduceAdd, decide_true, decide_false, Bool.not_true, Bool.not_false, true_and, and_true, List.map_cons, List.map_nil, List.nil_append, List.cons_append, List.append_nil, Option.map_some, Option.bind_some, List.getElem?_cons_zero, List.getElem?_cons_succ, Bool.false_eq_true, not_true_eq_false, not_false_eq_true, List.contains_cons, List.contains_nil, Nat.reduceBEq, Bool.true_or, Bool.false_or, Bool.or_true, List.set_cons_zero, List.set_cons_succ, List.length_cons, List.length_nil, isLd, Bool.true_and, Bool.false_and, Bool.and_true, Bool.and_false, e0, e11, e12, hti]
  refine h1.st hi hda (by rw [hd2]; exact h.row t (by omega)) fun G2 h2 hd3 _ => ?_
  have hO2 : Own G2 Ap cq cs 1 n := (hO.del hda).sub (by rw [← hd1, ← hd3]; exact Gh.Sub.del _ _)
  have k2 : rd (del G2 b) (some ⟨b10, 0, none⟩) = some (.int .i64 (k : Int)) := by rw [hd3, hd1]; exact k10
  simp (maxSteps := 300000) (disch := omega) only [gs, gs2, gs3, ↓reduceIte, Nat.reduceEqDiff, Nat.mul_one, Nat.add_zero, Nat.zero_add, Nat.zero_mul, Int.toNat_natCast, Int.reduceToNat, Nat.reduceMul, Nat.reduceAdd, decide_true, decide_false, Bool.not_true, Bool.not_false, true_and, and_true, List.map_cons, List.map_nil, List.nil_append, List.cons_append, List.append_nil, Option.map_some, Option.bind_some, List.getElem?_cons_zero, List.getElem?_cons_succ, Bool.false_eq_true, not_true_eq_false, not_false_eq_true, List.contains_cons, List.contains_nil, Nat.reduceBEq, Bool.true_or, Bool.false_or, Bool.or_true, List.set_cons_zero, List.set_cons_succ, List.length_cons, List.length_nil, isLd, Bool.true_and, Bool.false_and, Bool.and_true, Bool.and_false, e0, e1, e2, e8, e9, e10, e11, e16, e17]
  refine impl_reduce_ok ⟨by omega, by omega⟩ ?_
  simp (maxSteps := 300000) (disch := omega) only [gs, gs2, gs3, ↓reduceIte, Nat.reduceEqDiff, Nat.mul_one, Nat.add_zero, Nat.zero_add, Nat.zero_mul, Int.toNat_natCast, Int.reduceToNat, Nat.reduceMul, Nat.reduceAdd, decide_true, decide_false, Bool.not_true, Bool.not_false, true_and, and_true, List.map_cons, List.map_nil, List.nil_append, List.cons_append, List.append_nil, Option.map_some, Option.bind_some, List.getElem?_cons_zero, List.getElem?_cons_succ, Bool.false_eq_true, not_true_eq_false, not_false_eq_true, List.contains_cons, List.contains_nil, Nat.reduceBEq, Bool.true_or, Bool.false_or, Bool.or_true, List.set_cons_zero, List.set_cons_succ, List.length_cons, List.length_nil, isLd, Bool.true_and, Bool.false_and, Bool.and_true, Bool.and_false, e0, e1, e2, e8, e9, e10, e11, e16, e17]
  refine hX _ G2 _ _ (by simp (maxSteps := 300000) (disch := omega) only [gs, gs2, gs3, ↓reduceIte, Nat.reduceEqDiff, Nat.mul_one, Nat.add_zero, Nat.zero_add, Nat.zero_mul, Int.toNat_natCast, Int.reduceToNat, Nat.reduceMul, Nat.reduceAdd, decide_true, decide_false, Bool.not_true, Bool.not_false, true_and, and_true, List.map_cons, List.map_nil, List.nil_append, List.cons_append, List.append_nil, Option.map_some, Option.bind_some, List.getElem?_cons_zero, List.getElem?_cons_succ, Bool.false_eq_true, not_true_eq_false, not_false_eq_true, List.contains_cons, List.contains_nil, Nat.reduceBEq, Bool.true_or, Bool.false_or, Bool.or_true, List.set_cons_zero, List.set_cons_succ, List.length_cons, List.length_nil, isLd, Bool.true_and, Bool.false_and, Bool.and_true, Bool.and_false, e0]) (by simp (maxSteps := 300000) (disch := omega) only [gs, gs2, gs3, ↓reduceIte, Nat.reduceEqDiff, Nat.mul_one, Nat.add_zero, Nat.zero_add, Nat.zero_mul, Int.toNat_natCast, Int.reduceToNat, Nat.reduceMul, Nat.reduceAdd, decide_true, decide_false, Bool.not_true, Bool.not_false, true_and, and_true, List.map_cons, List.map_nil, List.nil_append, List.cons_append, List.append_nil, Option.map_some, Option.bind_some, List.getElem?_cons_zero, List.getElem?_cons_succ, Bool.false_eq_true, not_true_eq_false, not_false_eq_true, List.contains_cons, List.contains_nil, Nat.reduceBEq, Bool.true_or, Bool.false_or, Bool.or_true, List.set_cons_zero, List.set_cons_succ, List.length_cons, List.length_nil, isLd, Bool.true_and, Bool.false_and, Bool.and_true, Bool.and_false, e1]) (by simp (maxSteps := 300000) (disch := omega) only [gs, gs2, gs3, ↓reduceIte, Nat.reduceEqDiff, Nat.mul_one, Nat.add_zero, Nat.zero_add, Nat.zero_mul, Int.toNat_natCast, Int.reduceToNat, Nat.reduceMul, Nat.reduceAdd, decide_true, decide_false, Bool.not_true, Bool.not_false, true_and, and_true, List.map_cons, List.map_nil, List.nil_append, List.cons_append, List.append_nil, Option.map_some, Option.bind_some, List.getElem?_cons_zero, List.getElem?_cons_succ, Bool.false_eq_true, not_true_eq_false, not_false_eq_true, List.contains_cons, List.contains_nil, Nat.reduceBEq, Bool.true_or, Bool.false_or, Bool.or_true, List.set_cons_zero, List.set_cons_succ, List.length_cons, List.length_nil, isLd, Bool.true_and, Bool.false_and, Bool.and_true, Bool.and_false, e2]) (by simp (maxSteps := 300000) (disch := omega) only [gs, gs2, gs3, ↓reduceIte, Nat.reduceEqDiff, Nat.mul_one, Nat.add_zero, Nat.zero_add, Nat.zero_mul, Int.toNat_natCast, Int.reduceToNat, Nat.reduceMul, Nat.reduceAdd, decide_true, decide_false, Bool.not_true, Bool.not_false, true_and, and_true, List.map_cons, List.map_nil, List.nil_append, List.cons_append, List.append_nil, Option.map_some, Option.bind_some, List.getElem?_cons_zero, List.getElem?_cons_succ, Bool.false_eq_true, not_true_eq_false, not_false_eq_true, List.contains_cons, List.contains_nil, Nat.reduceBEq, Bool.true_or, Bool.false_or, Bool.or_true, List.set_cons_zero, List.set_cons_succ, List.length_cons, List.length_nil, isLd, Bool.true_and, Bool.false_and, Bool.and_true, Bool.and_false, e8]) (by simp (maxSteps := 300000) (disch := omega) only [gs, gs2, gs3, ↓reduceIte, Nat.reduceEqDiff, Nat.mul_one, Nat.add_zero, Nat.zero_add, Nat.zero_mul, Int.toNat_natCast, Int.reduceToNat, Nat.reduceMul, Nat.reduceAdd, decide_true, decide_false, Bool.not_true, Bool.not_false, true_and, and_true, List.map_cons, List.map_nil, List.nil_append, List.cons_append, List.append_nil, Option.map_some, Option.bind_some, List.getElem?_cons_zero, List.getElem?_cons_succ, Bool.false_eq_true, not_true_eq_false, not_false_eq_true, List.contains_cons, List.contains_nil, Nat.reduceBEq, Bool.true_or, Bool.false_or, Bool.or_true, List.set_cons_zero, List.set_cons_succ, List.length_cons, List.length_nil, isLd, Bool.true_and, Bool.false_and, Bool.and_true, Bool.and_false, if_neg hit]; rw [Int.zero_sub]) (by simp (maxSteps := 300000) (disch := omega) only [gs, gs2, gs3, ↓reduceIte, Nat.reduceEqDiff, Nat.mul_one, Nat.add_zero, Nat.zero_add, Nat.zero_mul, Int.toNat_natCast, Int.reduceToNat, Nat.reduceMul, Nat.reduceAdd, decide_true, decide_false, Bool.not_true, Bool.not_false, true_and, and_true, List.map_cons, List.map_nil, List.nil_append, List.cons_append, List.append_nil, Option.map_some, Option.bind_some, List.getElem?_cons_zero, List.getElem?_cons_succ, Bool.false_eq_true, not_true_eq_false, not_false_eq_true, List.contains_cons, List.contains_nil, Nat.reduceBEq, Bool.true_or, Bool.false_or, Bool.or_true, List.set_cons_zero, List.set_cons_succ, List.length_cons, List.length_nil, isLd, Bool.true_and, Bool.false_and, Bool.and_true, Bool.and_false, e10]) (by simp (maxSteps := 300000) (disch := omega) only [gs, gs2, gs3, ↓reduceIte, Nat.reduceEqDiff, Nat.mul_one, Nat.add_zero, Nat.zero_add, Nat.zero_mul, Int.toNat_natCast, Int.reduceToNat, Nat.reduceMul, Nat.reduceAdd, decide_true, decide_false, Bool.not_true, Bool.not_false, true_and, and_true, List.map_cons, List.map_nil, List.nil_append, List.cons_append, List.append_nil, Option.map_some, Option.bind_some, List.getElem?_cons_zero, List.getElem?_cons_succ, Bool.false_eq_true, not_true_eq_false, not_false_eq_true, List.contains_cons, List.contains_nil, Nat.reduceBEq, Bool.true_or, Bool.false_or, Bool.or_true, List.set_cons_zero, List.set_cons_succ, List.length_cons, List.length_nil, isLd, Bool.true_and, Bool.false_and, Bool.and_true, Bool.and_false, e11]) (by simp (maxSteps := 300000) (disch := omega) only [gs, gs2, gs3, ↓reduceIte, Nat.reduceEqDiff, Nat.mul_one, Nat.add_zero, Nat.zero_add, Nat.zero_mul, Int.toNat_natCast, Int.reduceToNat, Nat.reduceMul, Nat.reduceAdd, decide_true, decide_false, Bool.not_true, Bool.not_false, true_and, and_true, List.map_cons, List.map_nil, List.nil_append, List.cons_append, List.append_nil, Option.map_some, Option.bind_some, List.getElem?_cons_zero, List.getElem?_cons_succ, Bool.false_eq_true, not_true_eq_false, not_false_eq_true, List.contains_cons, List.contains_nil, Nat.reduceBEq, Bool.true_or, Bool.false_or, Bool.or_true, List.set_cons_zero, List.set_cons_succ, List.length_cons, List.length_nil, isLd, Bool.true_and, Bool.false_and, Bool.and_true, Bool.and_false, e16]) (by simp (maxSteps := 300000) (disch := omega) only [gs, gs2, gs3, ↓reduceIte, Nat.reduceEqDiff, Nat.mul_one, Nat.add_zero, Nat.zero_add, Nat.zero_mul, Int.toNat_natCast, Int.reduceToNat, Nat.reduceMul, Nat.reduceAdd, decide_true, decide_false, Bool.not_true, Bool.not_false, true_and, and_true, List.map_cons, List.map_nil, List.nil_append, List.cons_append, List.append_nil, Option.map_some, Option.bind_some, List.getElem?_cons_zero, List.getElem?_cons_succ, Bool.false_eq_true, not_true_eq_false, not_false_eq_true, List.contains_cons, List.contains_nil, Nat.reduceBEq, Bool.true_or, Bool.false_or, Bool.or_true, List.set_cons_zero, List.set_cons_succ, List.length_cons, List.length_nil, isLd, Bool.true_and, Bool.false_and, Bool.and_true, Bool.and_false, e17]) (h2.cong fun a j _ _ => ?_) hO2 k2
  unfold setr swp
  by_cases e1 : (a : Int) = i
  · rw [if_pos e1, if_neg (by omega), if_pos e1]
  · by_cases e2 : (a : Int) = t
    · rw [if_neg e1, if_pos e2, if_pos e2]
    · rw [if_neg e1, if_neg e2, if_neg e2, if_neg e1]
theorem impl_eliminate_ok {H G : GH} {b cp : Nat} {A : Nat → Option Addr} {c : Nat → Nat} {R C : Nat} {f : Int → Int → Int} {rest : List Value} {p : Int} (h : Rw H G b A c R C f rest none) (hcp : R ≤ cp) (hR : R < 2 ^ 10) (hC : C < 2 ^ 10) (hr : Rng f p) (hp : 1 < p ∧ p ≤ 2 ^ 30) {K : Value → GH → Prop}
    (hk : ∀ G' A' c' Ap cq, Rw H G' b A' c' R C (elF p R f C).f rest Ap → IntS G' Ap cq (elF p R f C).piv → K (.tuple [.slice Ap (elF p R f C).piv.length cq, .int .i64 (elF p R f C).det].toArray) G') :
    GC Try.prog 231 [.slice (some ⟨b, 0, none⟩) R cp, .int .i64 C, .int .i64 p] G K := by
  refine c_impl_eliminate_i (by simp) ?_
  simp (maxSteps := 300000) (disch := omega) only [gs, gs2, gs3, ↓reduceIte, Nat.reduceEqDiff, Nat.mul_one, Nat.add_zero, Nat.zero_add, Nat.zero_mul, Int.toNat_natCast, Int.reduceToNat, Nat.reduceMul, Nat.reduceAdd, decide_true, decide_false, Bool.not_true, Bool.not_false, true_and, and_true, List.map_cons, List.map_nil, List.nil_append, List.cons_append, List.append_nil, Option.map_some, Option.bind_some, List.getElem?_cons_zero, List.getElem?_cons_succ, Bool.false_eq_true, not_true_eq_false, not_false_eq_true, List.contains_cons, List.contains_nil, Nat.reduceBEq, Bool.true_or, Bool.false_or, Bool.or_true, List.set_cons_zero, List.set_cons_succ, List.length_cons, List.length_nil, isLd, Bool.true_and, Bool.false_and, Bool.and_true, Bool.and_false]
  refine gLoop_intro (fun m T G' => ∃ (k : Nat) (A' : Nat → Option Addr) (c' : Nat → Nat) (Ap : Option Addr) (cq : Nat), T 0 = .slice (some ⟨b, 0, none⟩) R cp ∧ T 1 = .int .i64 C ∧ T 2 = .int .i64 p ∧ T 8 = .slice Ap (elF p R f k).piv.length cq ∧ T 9 = .int .i64 (elF p R f k).det ∧ T 16 = .int .i64 C ∧ T 17 = .int .i64 k ∧ m + k = C ∧ k ≤ C ∧
      Rw H G' b A' c' R C (elF p R f k).f rest Ap ∧ Own G' Ap cq ((elF p R f k).piv.map I64) 1 (elF p R f k).piv.length ∧ Off H Ap ∧ ∀ a, Ap = some a → a.block ≠ b)
    C ⟨0, A, c, none, 0, by simp (maxSteps := 300000) (disch := omega) only [gs, gs2, gs3, ↓reduceIte, Nat.reduceEqDiff, Nat.mul_one, Nat.add_zero, Nat.zero_add, Nat.zero_mul, Int.toNat_natCast, Int.reduceToNat, Nat.reduceMul, Nat.reduceAdd, decide_true, decide_false, Bool.not_true, Bool.not_false, true_and, and_true, List.map_cons, List.map_nil, List.nil_append, List.cons_append, List.append_nil, Option.map_some, Option.bind_some, List.getElem?_cons_zero, List.getElem?_cons_succ, Bool.false_eq_true, not_true_eq_false, not_false_eq_true, List.contains_cons, List.contains_nil, Nat.reduceBEq, Bool.true_or, Bool.false_or, Bool.or_true, List.set_cons_zero, List.set_cons_succ, List.length_cons, List.length_nil, isLd, Bool.true_and, Bool.false_and, Bool.and_true, Bool.and_false], by simp (maxSteps := 300000) (disch := omega) only [gs, gs2, gs3, ↓reduceIte, Nat.reduceEqDiff, Nat.mul_one, Nat.add_zero, Nat.zero_add, Nat.zero_mul, Int.toNat_natCast, Int.reduceToNat, Nat.reduceMul, Nat.reduceAdd, decide_true, decide_false, Bool.not_true, Bool.not_false, true_and, and_true, List.map_cons, List.map_nil, List.nil_append, List.cons_append, List.append_nil, Option.map_some, Option.bind_some, List.getElem?_cons_zero, List.getElem?_cons_succ, Bool.false_eq_true, not_true_eq_false, not_false_eq_true, List.contains_cons, List.contains_nil, Nat.reduceBEq, Bool.true_or, Bool.false_or, Bool.or_true, List.set_cons_zero, List.set_cons_succ, List.length_cons, List.length_nil, isLd, Bool.true_and, Bool.false_and, Bool.and_true, Bool.and_false], by simp (maxSteps := 300000) (disch := omega) only [gs, gs2, gs3, ↓reduceIte, Nat.reduceEqDiff, Nat.mul_one, Nat.add_zero, Nat.zero_add, Nat.zero_mul, Int.toNat_natCast, Int.reduceToNat, Nat.reduceMul, Nat.reduceAdd, decide_true, decide_false, Bool.not_true, Bool.not_false, true_and, and_true, List.map_cons, List.map_nil, List.nil_append, List.cons_append, List.append_nil, Option.map_some, Option.bind_some, List.getElem?_cons_zero, List.getElem?_cons_succ, Bool.false_eq_true, not_true_eq_false, not_false_eq_true, List.contains_cons, List.contains_nil, Nat.reduceBEq, Bool.true_or, Bool.false_or, Bool.or_true, List.set_cons_zero, List.set_cons_succ, List.length_cons, List.length_nil, isLd, Bool.true_and, Bool.false_and, Bool.and_true, Bool.and_false], by simp (maxSteps := 300000) (disch := omega) only [gs, gs2, gs3, ↓reduceIte, Nat.reduceEqDiff, Nat.mul_one, Nat.add_zero, Nat.zero_add, Nat.zero_mul, Int.toNat_natCast, Int.reduceToNat, Nat.reduceMul, Nat.reduceAdd, decide_true, decide_false, Bool.not_true, Bool.not_false, true_and, and_true, List.map_cons, List.map_nil, List.nil_append, List.cons_append, List.append_nil, Option.map_some, Option.bind_some, List.getElem?_cons_zero, List.getElem?_cons_succ, Bool.false_eq_true, not_true_eq_false, not_false_eq_true, List.contains_cons, List.contains_nil, Nat.reduceBEq, Bool.true_or, Bool.false_or, Bool.or_true, List.set_cons_zero, List.set_cons_succ, List.length_cons, List.length_nil, isLd, Bool.true_and, Bool.false_and, Bool.and_true, Bool.and_false] <;> rfl, by simp (maxSteps := 300000) (disch := omega) only [gs, gs2, gs3, ↓reduceIte, Nat.reduceEqDiff, Nat.mul_one, Nat.add_zero, Nat.zero_add, Nat.zero_mul, Int.toNat_natCast, Int.reduceToNat, Nat.reduceMul, Nat.reduceAdd, decide_true, decide_false, Bool.not_true, Bool.not_false, true_and, and_true, List.map_cons, List.map_nil, List.nil_append, List.cons_append, List.append_nil, Option.map_some, Option.bind_some, List.getElem?_cons_zero, List.getElem?_cons_succ, Bool.false_eq_true, not_true_eq_false, not_false_eq_true, List.contains_cons, List.contains_nil, Nat.reduceBEq, Bool.true_or, Bool.false_or, Bool.or_true, List.set_cons_zero, List.set_cons_succ, List.length_cons, List.length_nil, isLd, Bool.true_and, Bool.false_and, Bool.and_true, Bool.and_false] <;> rfl, by simp (maxSteps := 300000) (disch := omega) only [gs, gs2, gs3, ↓reduceIte, Nat.reduceEqDiff, Nat.mul_one, Nat.add_zero, Nat.zero_add, Nat.zero_mul, Int.toNat_natCast, Int.reduceToNat, Nat.reduceMul, Nat.reduceAdd, decide_true, decide_false, Bool.not_true, Bool.not_false, true_and, and_true, List.map_cons, List.map_nil, List.nil_append, List.cons_append, List.append_nil, Option.map_some, Option.bind_some, List.getElem?_cons_zero, List.getElem?_cons_succ, Bool.false_eq_true, not_true_eq_false, not_false_eq_true, List.contains_cons, List.contains_nil, Nat.reduceBEq, Bool.true_or, Bool.false_or, Bool.or_true, List.set_cons_zero, List.set_cons_succ, List.length_cons, List.length_nil, isLd, Bool.true_and, Bool.false_and, Bool.and_true, Bool.and_false], by simp (maxSteps := 300000) (disch := omega) only [gs, gs2, gs3, ↓reduceIte, Nat.reduceEqDiff, Nat.mul_one, Nat.add_zero, Nat.zero_add, Nat.zero_mul, Int.toNat_natCast, Int.reduceToNat, Nat.reduceMul, Nat.reduceAdd, decide_true, decide_false, Bool.not_true, Bool.not_false, true_and, and_true, List.map_cons, List.map_nil, List.nil_append, List.cons_append, List.append_nil, Option.map_some, Option.bind_some, List.getElem?_cons_zero, List.getElem?_cons_succ, Bool.false_eq_true, not_true_eq_false, not_false_eq_true, List.contains_cons, List.contains_nil, Nat.reduceBEq, Bool.true_or, Bool.false_or, Bool.or_true, List.set_cons_zero, List.set_cons_succ, List.length_cons, List.length_nil, isLd, Bool.true_and, Bool.false_and, Bool.and_true, Bool.and_false] <;> rfl, by omega, by omega, h, Own.nil _ _, Off.nil _, fun a ha => by cases ha⟩ ?_
  rintro m T G' ⟨k, A', c', Ap, cq, e0, e1, e2, e8, e9, e16, e17, hm, hkm, hw, hO, hOf, hda⟩
  have hrg := elF_rng (R := R) (by omega : 0 < p) hr k
  have hln := elF_len p R f k
  have hdt := elF_det hp.1 R f k
  have hstep : elF p R f (k + 1) = elS p R (elF p R f k) k := rfl
  simp (maxSteps := 300000) (disch := omega) only [gs, gs2, gs3, ↓reduceIte, Nat.reduceEqDiff, Nat.mul_one, Nat.add_zero, Nat.zero_add, Nat.zero_mul, Int.toNat_natCast, Int.reduceToNat, Nat.reduceMul, Nat.reduceAdd, decide_true, decide_false, Bool.not_true, Bool.not_false, true_and, and_true, List.map_cons, List.map_nil, List.nil_append, List.cons_append, List.append_nil, Option.map_some, Option.bind_some, List.getElem?_cons_zero, List.getElem?_cons_succ, Bool.false_eq_true, not_true_eq_false, not_false_eq_true, List.contains_cons, List.contains_nil, Nat.reduceBEq, Bool.true_or, Bool.false_or, Bool.or_true, List.set_cons_zero, List.set_cons_succ, List.length_cons, List.length_nil, isLd, Bool.true_and, Bool.false_and, Bool.and_true, Bool.and_false, e0, e1, e2, e8, e9, e16, e17]
  by_cases hkk : (k : Int) < C
  rotate_left
  · simp (maxSteps := 300000) (disch := omega) only [gs, gs2, gs3, ↓reduceIte, Nat.reduceEqDiff, Nat.mul_one, Nat.add_zero, Nat.zero_add, Nat.zero_mul, Int.toNat_natCast, Int.reduceToNat, Nat.reduceMul, Nat.reduceAdd, decide_true, decide_false, Bool.not_true, Bool.not_false, true_and, and_true, List.map_cons, List.map_nil, List.nil_append, List.cons_append, List.append_nil, Option.map_some, Option.bind_some, List.getElem?_cons_zero, List.getElem?_cons_succ, Bool.false_eq_true, not_true_eq_false, not_false_eq_true, List.contains_cons, List.contains_nil, Nat.reduceBEq, Bool.true_or, Bool.false_or, Bool.or_true, List.set_cons_zero, List.set_cons_succ, List.length_cons, List.length_nil, isLd, Bool.true_and, Bool.false_and, Bool.and_true, Bool.and_false, e0, e1, e2, e8, e9, e16, e17, hkk]
    obtain rfl : k = C := by omega
    exact hk _ _ _ _ _ hw hO.ints
  generalize elF p R f k = S at *
  simp (maxSteps := 300000) (disch := omega) only [gs, gs2, gs3, ↓reduceIte, Nat.reduceEqDiff, Nat.mul_one, Nat.add_zero, Nat.zero_add, Nat.zero_mul, Int.toNat_natCast, Int.reduceToNat, Nat.reduceMul, Nat.reduceAdd, decide_true, decide_false, Bool.not_true, Bool.not_false, true_and, and_true, List.map_cons, List.map_nil, List.nil_append, List.cons_append, List.append_nil, Option.map_some, Option.bind_some, List.getElem?_cons_zero, List.getElem?_cons_succ, Bool.false_eq_true, not_true_eq_false, not_false_eq_true, List.contains_cons, List.contains_nil, Nat.reduceBEq, Bool.true_or, Bool.false_or, Bool.or_true, List.set_cons_zero, List.set_cons_succ, List.length_cons, List.length_nil, isLd, Bool.true_and, Bool.false_and, Bool.and_true, Bool.and_false, e0, e1, e2, e8, e9, e16, e17, hkk]
  intro b10 hb10
  simp (maxSteps := 300000) (disch := omega) only [gs, gs2, gs3, ↓reduceIte, Nat.reduceEqDiff, Nat.mul_one, Nat.add_zero, Nat.zero_add, Nat.zero_mul, Int.toNat_natCast, Int.reduceToNat, Nat.reduceMul, Nat.reduceAdd, decide_true, decide_false, Bool.not_true, Bool.not_false, true_and, and_true, List.map_cons, List.map_nil, List.nil_append, List.cons_append, List.append_nil, Option.map_some, Option.bind_some, List.getElem?_cons_zero, List.getElem?_cons_succ, Bool.false_eq_true, not_true_eq_false, not_false_eq_true, List.contains_cons, List.contains_nil, Nat.reduceBEq, Bool.true_or, Bool.false_or, Bool.or_true, List.set_cons_zero, List.set_cons_succ, List.length_cons, List.length_nil, isLd, Bool.true_and, Bool.false_and, Bool.and_true, Bool.and_false, e0, e1, e2, e8, e9, e16, e17]
  refine st_one (put_same _ _ _) (by simp) rfl ?_
  rw [put_put', show List.set [Value.int .i64 0] 0 (.int .i64 (k : Int)) = [.int .i64 (k : Int)] from rfl]
  have s10 := Sub.put hb10 ⟨[.int .i64 (k : Int)], true⟩
  have k10 : rd (put G' b10 ⟨[.int .i64 (k : Int)], true⟩) (some ⟨b10, 0, none⟩) = some (.int .i64 (k : Int)) := rd_box _ _ _ 0 _ rfl
  have n10 : b10 ≠ b := (blk_ne hw.blk hb10).symm
  have hw := hw.up s10
  have hO := hO.sub s10
  have kd : rd (del (put G' b10 ⟨[.int .i64 (k : Int)], true⟩) b) (some ⟨b10, 0, none⟩) = some (.int .i64 (k : Int)) := by
    simp only [rd]; rw [del_ne _ n10, put_same]; rfl
  revert k10 hw hO kd
  generalize put G' b10 ⟨[.int .i64 (k : Int)], true⟩ = G2
  intro k10 hw hO kd
  simp (maxSteps := 300000) (disch := omega) only [gs, gs2, gs3, ↓reduceIte, Nat.reduceEqDiff, Nat.mul_one, Nat.add_zero, Nat.zero_add, Nat.zero_mul, Int.toNat_natCast, Int.reduceToNat, Nat.reduceMul, Nat.reduceAdd, decide_true, decide_false, Bool.not_true, Bool.not_false, true_and, and_true, List.map_cons, List.map_nil, List.nil_append, List.cons_append, List.append_nil, Option.map_some, Option.bind_some, List.getElem?_cons_zero, List.getElem?_cons_succ, Bool.false_eq_true, not_true_eq_false, not_false_eq_true, List.contains_cons, List.contains_nil, Nat.reduceBEq, Bool.true_or, Bool.false_or, Bool.or_true, List.set_cons_zero, List.set_cons_succ, List.length_cons, List.length_nil, isLd, Bool.true_and, Bool.false_and, Bool.and_true, Bool.and_false, e0, e1, e2, e8, e9, e16, e17, k10, Option.map_none, sl_top hln.1 hcp]
  obtain ⟨Y, d', hY, hYe⟩ : ∃ Y d', (if cp = S.piv.length then Value.slice (some ⟨b, 0, none⟩) (R - S.piv.length) (cp - S.piv.length) else Value.slice (some ⟨b, S.piv.length, none⟩) (R - S.piv.length) (cp - S.piv.length)) = .slice Y (R - S.piv.length) d' ∧ (S.piv.length < R → Y = some ⟨b, S.piv.length, none⟩) := by
    by_cases e : cp = S.piv.length
    · exact ⟨_, _, if_pos e, fun x => by omega⟩
    · exact ⟨_, _, if_neg e, fun _ => rfl⟩
  rw [hY]
  refine slices_IndexFuncS_ok (col := (k : Int)) hw hYe hln.1 (by omega) (fun i hi K' hK' => ?_) (fun hno => ?_) fun i hi1 hi2 hi3 hi4 => ?_
  · simp (maxSteps := 300000) (disch := omega) only [gs, gs2, gs3, ↓reduceIte, Nat.reduceEqDiff, Nat.mul_one, Nat.add_zero, Nat.zero_add, Nat.zero_mul, Int.toNat_natCast, Int.reduceToNat, Nat.reduceMul, Nat.reduceAdd, decide_true, decide_false, Bool.not_true, Bool.not_false, true_and, and_true, List.map_cons, List.map_nil, List.nil_append, List.cons_append, List.append_nil, Option.map_some, Option.bind_some, List.getElem?_cons_zero, List.getElem?_cons_succ, Bool.false_eq_true, not_true_eq_false, not_false_eq_true, List.contains_cons, List.contains_nil, Nat.reduceBEq, Bool.true_or, Bool.false_or, Bool.or_true, List.set_cons_zero, List.set_cons_succ, List.length_cons, List.length_nil, isLd, Bool.true_and, Bool.false_and, Bool.and_true, Bool.and_false]
    refine c_impl_eliminate_fn1_i (by simp) ?_
    have hc := hw.cell hi (j := k) (by omega)
    have hs := hw.sn hi (by omega)
    simp (maxSteps := 300000) (disch := omega) only [gs, gs2, gs3, ↓reduceIte, Nat.reduceEqDiff, Nat.mul_one, Nat.add_zero, Nat.zero_add, Nat.zero_mul, Int.toNat_natCast, Int.reduceToNat, Nat.reduceMul, Nat.reduceAdd, decide_true, decide_false, Bool.not_true, Bool.not_false, true_and, and_true, List.map_cons, List.map_nil, List.nil_append, List.cons_append, List.append_nil, Option.map_some, Option.bind_some, List.getElem?_cons_zero, List.getElem?_cons_succ, Bool.false_eq_true, not_true_eq_false, not_false_eq_true, List.contains_cons, List.contains_nil, Nat.reduceBEq, Bool.true_or, Bool.false_or, Bool.or_true, List.set_cons_zero, List.set_cons_succ, List.length_cons, List.length_nil, isLd, Bool.true_and, Bool.false_and, Bool.and_true, Bool.and_false, k10, hc]
    exact hK'
  · simp (maxSteps := 300000) (disch := omega) only [gs, gs2, gs3, ↓reduceIte, Nat.reduceEqDiff, Nat.mul_one, Nat.add_zero, Nat.zero_add, Nat.zero_mul, Int.toNat_natCast, Int.reduceToNat, Nat.reduceMul, Nat.reduceAdd, decide_true, decide_false, Bool.not_true, Bool.not_false, true_and, and_true, List.map_cons, List.map_nil, List.nil_append, List.cons_append, List.append_nil, Option.map_some, Option.bind_some, List.getElem?_cons_zero, List.getElem?_cons_succ, Bool.false_eq_true, not_true_eq_false, not_false_eq_true, List.contains_cons, List.contains_nil, Nat.reduceBEq, Bool.true_or, Bool.false_or, Bool.or_true, List.set_cons_zero, List.set_cons_succ, List.length_cons, List.length_nil, isLd, Bool.true_and, Bool.false_and, Bool.and_true, Bool.and_false, e0, e1, e2, e8, e9, e16, e17, show ((-1 : Int) < 0) = True from eq_true (by omega)]
    have hS : elS p R S k = ⟨S.f, S.piv, 0⟩ := by unfold elS; rw [fstRow_none hno]
    rw [hS] at hstep
    refine ⟨m - 1, by omega, G2, Sub.refl _, k + 1, A', c', Ap, cq, by rw [hstep], by rw [hstep], rfl, by omega, by omega, by rw [hstep]; exact hw, by rw [hstep]; exact hO, hOf, hda⟩
  · have hS : elS p R S k = ⟨clr (scl (swp S.f S.piv.length i) S.piv.length (invF (swp S.f S.piv.length i S.piv.length k) p) p) S.piv.length k p, S.piv ++ [(k : Int)], (if i = S.piv.length then S.det else (-S.det) % p) * swp S.f S.piv.length i S.piv.length k % p⟩ := by unfold elS; rw [fstRow_some hi1 hi2 hi3 hi4]
    rw [hS] at hstep
    have hsw : swp S.f S.piv.length i S.piv.length = S.f i := by unfold swp; rw [if_pos rfl]
    simp (maxSteps := 300000) (disch := omega) only [gs, gs2, gs3, ↓reduceIte, Nat.reduceEqDiff, Nat.mul_one, Nat.add_zero, Nat.zero_add, Nat.zero_mul, Int.toNat_natCast, Int.reduceToNat, Nat.reduceMul, Nat.reduceAdd, decide_true, decide_false, Bool.not_true, Bool.not_false, true_and, and_true, List.map_cons, List.map_nil, List.nil_append, List.cons_append, List.append_nil, Option.map_some, Option.bind_some, List.getElem?_cons_zero, List.getElem?_cons_succ, Bool.false_eq_true, not_true_eq_false, not_false_eq_true, List.contains_cons, List.contains_nil, Nat.reduceBEq, Bool.true_or, Bool.false_or, Bool.or_true, List.set_cons_zero, List.set_cons_succ, List.length_cons, List.length_nil, isLd, Bool.true_and, Bool.false_and, Bool.and_true, Bool.and_false, e0, e1, e2, e8, e9, e16, e17]
    rw [decide_eq_false (show ¬ ((i - S.piv.length : Nat) : Int) < 0 by omega)]
    refine el_swap (X := elTail) (cp := cp) (k := k) (t := S.piv.length) (i := i) hw hR hp hi1 hi2 hdt kd hO hda (by simp (maxSteps := 300000) (disch := omega) only [gs, gs2, gs3, ↓reduceIte, Nat.reduceEqDiff, Nat.mul_one, Nat.add_zero, Nat.zero_add, Nat.zero_mul, Int.toNat_natCast, Int.reduceToNat, Nat.reduceMul, Nat.reduceAdd, decide_true, decide_false, Bool.not_true, Bool.not_false, true_and, and_true, List.map_cons, List.map_nil, List.nil_append, List.cons_append, List.append_nil, Option.map_some, Option.bind_some, List.getElem?_cons_zero, List.getElem?_cons_succ, Bool.false_eq_true, not_true_eq_false, not_false_eq_true, List.contains_cons, List.contains_nil, Nat.reduceBEq, Bool.true_or, Bool.false_or, Bool.or_true, List.set_cons_zero, List.set_cons_succ, List.length_cons, List.length_nil, isLd, Bool.true_and, Bool.false_and, Bool.and_true, Bool.and_false, e0]) (by simp (maxSteps := 300000) (disch := omega) only [gs, gs2, gs3, ↓reduceIte, Nat.reduceEqDiff, Nat.mul_one, Nat.add_zero, Nat.zero_add, Nat.zero_mul, Int.toNat_natCast, Int.reduceToNat, Nat.reduceMul, Nat.reduceAdd, decide_true, decide_false, Bool.not_true, Bool.not_false, true_and, and_true, List.map_cons, List.map_nil, List.nil_append, List.cons_append, List.append_nil, Option.map_some, Option.bind_some, List.getElem?_cons_zero, List.getElem?_cons_succ, Bool.false_eq_true, not_true_eq_false, not_false_eq_true, List.contains_cons, List.contains_nil, Nat.reduceBEq, Bool.true_or, Bool.false_or, Bool.or_true, List.set_cons_zero, List.set_cons_succ, List.length_cons, List.length_nil, isLd, Bool.true_and, Bool.false_and, Bool.and_true, Bool.and_false, e1]) (by simp (maxSteps := 300000) (disch := omega) only [gs, gs2, gs3, ↓reduceIte, Nat.reduceEqDiff, Nat.mul_one, Nat.add_zero, Nat.zero_add, Nat.zero_mul, Int.toNat_natCast, Int.reduceToNat, Nat.reduceMul, Nat.reduceAdd, decide_true, decide_false, Bool.not_true, Bool.not_false, true_and, and_true, List.map_cons, List.map_nil, List.nil_append, List.cons_append, List.append_nil, Option.map_some, Option.bind_some, List.getElem?_cons_zero, List.getElem?_cons_succ, Bool.false_eq_true, not_true_eq_false, not_false_eq_true, List.contains_cons, List.contains_nil, Nat.reduceBEq, Bool.true_or, Bool.false_or, Bool.or_true, List.set_cons_zero, List.set_cons_succ, List.length_cons, List.length_nil, isLd, Bool.true_and, Bool.false_and, Bool.and_true, Bool.and_false, e2]) (by simp (maxSteps := 300000) (disch := omega) only [gs, gs2, gs3, ↓reduceIte, Nat.reduceEqDiff, Nat.mul_one, Nat.add_zero, Nat.zero_add, Nat.zero_mul, Int.toNat_natCast, Int.reduceToNat, Nat.reduceMul, Nat.reduceAdd, decide_true, decide_false, Bool.not_true, Bool.not_false, true_and, and_true, List.map_cons, List.map_nil, List.nil_append, List.cons_append, List.append_nil, Option.map_some, Option.bind_some, List.getElem?_cons_zero, List.getElem?_cons_succ, Bool.false_eq_true, not_true_eq_false, not_false_eq_true, List.contains_cons, List.contains_nil, Nat.reduceBEq, Bool.true_or, Bool.false_or, Bool.or_true, List.set_cons_zero, List.set_cons_succ, List.length_cons, List.length_nil, isLd, Bool.true_and, Bool.false_and, Bool.and_true, Bool.and_false, e8]) (by simp (maxSteps := 300000) (disch := omega) only [gs, gs2, gs3, ↓reduceIte, Nat.reduceEqDiff, Nat.mul_one, Nat.add_zero, Nat.zero_add, Nat.zero_mul, Int.toNat_natCast, Int.reduceToNat, Nat.reduceMul, Nat.reduceAdd, decide_true, decide_false, Bool.not_true, Bool.not_false, true_and, and_true, List.map_cons, List.map_nil, List.nil_append, List.cons_append, List.append_nil, Option.map_some, Option.bind_some, List.getElem?_cons_zero, List.getElem?_cons_succ, Bool.false_eq_true, not_true_eq_false, not_false_eq_true, List.contains_cons, List.contains_nil, Nat.reduceBEq, Bool.true_or, Bool.false_or, Bool.or_true, List.set_cons_zero, List.set_cons_succ, List.length_cons, List.length_nil, isLd, Bool.true_and, Bool.false_and, Bool.and_true, Bool.and_false, e9]) (by simp (maxSteps := 300000) (disch := omega) only [gs, gs2, gs3, ↓reduceIte, Nat.reduceEqDiff, Nat.mul_one, Nat.add_zero, Nat.zero_add, Nat.zero_mul, Int.toNat_natCast, Int.reduceToNat, Nat.reduceMul, Nat.reduceAdd, decide_true, decide_false, Bool.not_true, Bool.not_false, true_and, and_true, List.map_cons, List.map_nil, List.nil_append, List.cons_append, List.append_nil, Option.map_some, Option.bind_some, List.getElem?_cons_zero, List.getElem?_cons_succ, Bool.false_eq_true, not_true_eq_false, not_false_eq_true, List.contains_cons, List.contains_nil, Nat.reduceBEq, Bool.true_or, Bool.false_or, Bool.or_true, List.set_cons_zero, List.set_cons_succ, List.length_cons, List.length_nil, isLd, Bool.true_and, Bool.false_and, Bool.and_true, Bool.and_false]) (by simp (maxSteps := 300000) (disch := omega) only [gs, gs2, gs3, ↓reduceIte, Nat.reduceEqDiff, Nat.mul_one, Nat.add_zero, Nat.zero_add, Nat.zero_mul, Int.toNat_natCast, Int.reduceToNat, Nat.reduceMul, Nat.reduceAdd, decide_true, decide_false, Bool.not_true, Bool.not_false, true_and, and_true, List.map_cons, List.map_nil, List.nil_append, List.cons_append, List.append_nil, Option.map_some, Option.bind_some, List.getElem?_cons_zero, List.getElem?_cons_succ, Bool.false_eq_true, not_true_eq_false, not_false_eq_true, List.contains_cons, List.contains_nil, Nat.reduceBEq, Bool.true_or, Bool.false_or, Bool.or_true, List.set_cons_zero, List.set_cons_succ, List.length_cons, List.length_nil, isLd, Bool.true_and, Bool.false_and, Bool.and_true, Bool.and_false]) (by simp (maxSteps := 300000) (disch := omega) only [gs, gs2, gs3, ↓reduceIte, Nat.reduceEqDiff, Nat.mul_one, Nat.add_zero, Nat.zero_add, Nat.zero_mul, Int.toNat_natCast, Int.reduceToNat, Nat.reduceMul, Nat.reduceAdd, decide_true, decide_false, Bool.not_true, Bool.not_false, true_and, and_true, List.map_cons, List.map_nil, List.nil_append, List.cons_append, List.append_nil, Option.map_some, Option.bind_some, List.getElem?_cons_zero, List.getElem?_cons_succ, Bool.false_eq_true, not_true_eq_false, not_false_eq_true, List.contains_cons, List.contains_nil, Nat.reduceBEq, Bool.true_or, Bool.false_or, Bool.or_true, List.set_cons_zero, List.set_cons_succ, List.length_cons, List.length_nil, isLd, Bool.true_and, Bool.false_and, Bool.and_true, Bool.and_false]) (by simp (maxSteps := 300000) (disch := omega) only [gs, gs2, gs3, ↓reduceIte, Nat.reduceEqDiff, Nat.mul_one, Nat.add_zero, Nat.zero_add, Nat.zero_mul, Int.toNat_natCast, Int.reduceToNat, Nat.reduceMul, Nat.reduceAdd, decide_true, decide_false, Bool.not_true, Bool.not_false, true_and, and_true, List.map_cons, List.map_nil, List.nil_append, List.cons_append, List.append_nil, Option.map_some, Option.bind_some, List.getElem?_cons_zero, List.getElem?_cons_succ, Bool.false_eq_true, not_true_eq_false, not_false_eq_true, List.contains_cons, List.contains_nil, Nat.reduceBEq, Bool.true_or, Bool.false_or, Bool.or_true, List.set_cons_zero, List.set_cons_succ, List.length_cons, List.length_nil, isLd, Bool.true_and, Bool.false_and, Bool.and_true, Bool.and_false, e16]) (by simp (maxSteps := 300000) (disch := omega) only [gs, gs2, gs3, ↓reduceIte, Nat.reduceEqDiff, Nat.mul_one, Nat.add_zero, Nat.zero_add, Nat.zero_mul, Int.toNat_natCast, Int.reduceToNat, Nat.reduceMul, Nat.reduceAdd, decide_true, decide_false, Bool.not_true, Bool.not_false, true_and, and_true, List.map_cons, List.map_nil, List.nil_append, List.cons_append, List.append_nil, Option.map_some, Option.bind_some, List.getElem?_cons_zero, List.getElem?_cons_succ, Bool.false_eq_true, not_true_eq_false, not_false_eq_true, List.contains_cons, List.contains_nil, Nat.reduceBEq, Bool.true_or, Bool.false_or, Bool.or_true, List.set_cons_zero, List.set_cons_succ, List.length_cons, List.length_nil, isLd, Bool.true_and, Bool.false_and, Bool.and_true, Bool.and_false, e17]) fun T2 G3 A3 c3 f0 f1 f2 f8 f9 f10 f11 f16 f17 hw3 hO3 kd3 => ?_
    have hd3 : 0 ≤ (if i = S.piv.length then S.det else (-S.det) % p) ∧ (if i = S.piv.length then S.det else (-S.det) % p) < p := by
      split
      · exact hdt
      · exact ⟨Int.emod_nonneg _ (by omega), Int.emod_lt_of_pos _ (by omega)⟩
    refine el_tail (cp := cp) (k := k) (t := S.piv.length) (g := swp S.f S.piv.length i) hw3 hR hC (hrg.swp _ _) hp (by omega) (by omega) hd3 (by rw [hsw]; exact hi3) kd3 hO3 hOf hda (by omega) f0 f1 f2 f8 f9 f10 f11 f16 f17 fun T4 G4 A4 c4 Ap4 cq4 g0 g1 g2 g8 g9 g16 g17 hw4 hO4 oH4 d4 => ?_
    simp (maxSteps := 300000) (disch := omega) only [gs, gs2, gs3, ↓reduceIte, Nat.reduceEqDiff, Nat.mul_one, Nat.add_zero, Nat.zero_add, Nat.zero_mul, Int.toNat_natCast, Int.reduceToNat, Nat.reduceMul, Nat.reduceAdd, decide_true, decide_false, Bool.not_true, Bool.not_false, true_and, and_true, List.map_cons, List.map_nil, List.nil_append, List.cons_append, List.append_nil, Option.map_some, Option.bind_some, List.getElem?_cons_zero, List.getElem?_cons_succ, Bool.false_eq_true, not_true_eq_false, not_false_eq_true, List.contains_cons, List.contains_nil, Nat.reduceBEq, Bool.true_or, Bool.false_or, Bool.or_true, List.set_cons_zero, List.set_cons_succ, List.length_cons, List.length_nil, isLd, Bool.true_and, Bool.false_and, Bool.and_true, Bool.and_false, g0, g1, g2, g8, g9, g16, g17]
    refine ⟨m - 1, by omega, G4, Sub.refl _, k + 1, A4, c4, Ap4, cq4, ?_, ?_, rfl, by omega, by omega, by rw [hstep]; exact hw4, ?_, oH4, d4⟩
    · rw [hstep]; simp
    · rw [hstep]
    · rw [hstep]; exact hO4.cast rfl (by simp)
def pr (g : Nat → Int) : Nat → Int
  | 0 => 1
  | n + 1 => pr g n * g n
theorem sm_head (g : Nat → Int) : ∀ n, sm g (n + 1) = g 0 + sm (fun i => g (i + 1)) n
  | 0 => by simp [sm]
  | n + 1 => by
    show sm g (n + 1) + g (n + 1) = g 0 + (sm (fun i => g (i + 1)) n + g (n + 1))
    rw [sm_head g n]; omega
theorem pr_head (g : Nat → Int) : ∀ n, pr g (n + 1) = g 0 * pr (fun i => g (i + 1)) n
  | 0 => by simp [pr]
  | n + 1 => by
    show pr g (n + 1) * g (n + 1) = g 0 * (pr (fun i => g (i + 1)) n * g (n + 1))
    rw [pr_head g n, Int.mul_assoc]
theorem pr_nonneg {g : Nat → Int} : ∀ n, (∀ i, i < n → 0 ≤ g i) → 0 ≤ pr g n
  | 0, _ => (by decide : (0 : Int) ≤ 1)
  | n + 1, h => Int.mul_nonneg (pr_nonneg n fun i hi => h i (by omega)) (h n (by omega))
theorem pr_le {g h : Nat → Int} : ∀ n, (∀ i, i < n → 0 ≤ g i ∧ g i ≤ h i) → pr g n ≤ pr h n
  | 0, _ => Int.le_refl _
  | n + 1, hh => by
    have h1 := pr_le n fun i hi => hh i (by omega)
    have h2 := pr_nonneg (g := g) n fun i hi => (hh i (by omega)).1
    have h3 := hh n (by omega)
    exact Int.mul_le_mul h1 h3.2 h3.1 (Int.le_trans h2 h1)
theorem pr_scale (g : Nat → Int) (a : Int) : ∀ n, pr (fun i => a * g i) n = a ^ n * pr g n
  | 0 => by simp [pr]
  | n + 1 => by
    show pr (fun i => a * g i) n * (a * g n) = a ^ (n + 1) * (pr g n * g n)
    rw [pr_scale g a n, Int.pow_succ]
    rw [Int.mul_assoc (a ^ n), Int.mul_assoc (a ^ n), Int.mul_left_comm (pr g n) a]
/-- the diagonal outweighs the rest, which is not positive. -/
def Dom (n : Nat) (f : Int → Int → Int) : Prop := ∀ i : Nat, i < n → (∀ j : Nat, j < n → j ≠ i → f i j ≤ 0) ∧ 0 ≤ sm (fun j => f i j) n
theorem sm_le {g h : Nat → Int} : ∀ n, (∀ i, i < n → g i ≤ h i) → sm g n ≤ sm h n
  | 0, _ => Int.le_refl _
  | n + 1, hh => Int.add_le_add (sm_le n fun i hi => hh i (by omega)) (hh n (by omega))
theorem sm_one {g : Nat → Int} {i : Nat} (hg : ∀ j, j ≠ i → g j = 0) : ∀ n, sm g n = if i < n then g i else 0
  | 0 => by simp [sm]
  | n + 1 => by
    show sm g n + g n = _
    rw [sm_one hg n]
    by_cases h : n = i
    · subst h; simp
    · rw [hg n h]
      by_cases h2 : i < n
      · rw [if_pos h2, if_pos (by omega)]; omega
      · rw [if_neg h2, if_neg (by omega)]; omega
theorem Dom.diag {n : Nat} {f : Int → Int → Int} (h : Dom n f) {i : Nat} (hi : i < n) : 0 ≤ f i i := by
  have h1 := (h i hi).2
  have h2 := sm_le (g := fun j => f i j) (h := fun j => if j = i then f i i else 0) n fun j hj => by
    try dsimp only
    by_cases e : j = i
    · rw [if_pos e, e]; exact Int.le_refl _
    · rw [if_neg e]; exact (h i hi).1 j hj e
  rw [sm_one (i := i) (fun j hj => if_neg hj) n, if_pos hi, if_pos rfl] at h2
  omega
theorem Dom.zrow {n : Nat} {f : Int → Int → Int} (h : Dom n f) {i : Nat} (hi : i < n) (h0 : f i i = 0) {k : Nat} (hk : k < n) : f i k = 0 := by
  by_cases e : k = i
  · rw [e]; exact h0
  · have h1 := (h i hi).2
    have h2 := sm_le (g := fun j => f i j) (h := fun j => if j = k then f i k else 0) n fun j hj => by
      try dsimp only
      by_cases e2 : j = k
      · rw [if_pos e2, e2]; exact Int.le_refl _
      · rw [if_neg e2]
        by_cases e3 : j = i
        · rw [e3, h0]; exact Int.le_refl _
        · exact (h i hi).1 j hj e3
    rw [sm_one (i := k) (fun j hj => if_neg hj) n, if_pos hk, if_pos rfl] at h2
    have := (h i hi).1 k hk e
    omega
theorem sm_lin2 (g h : Nat → Int) (a c : Int) : ∀ n, sm (fun j => a * g j - c * h j) n = a * sm g n - c * sm h n
  | 0 => by simp [sm]
  | n + 1 => by
    show sm (fun j => a * g j - c * h j) n + (a * g n - c * h n) = a * (sm g n + g n) - c * (sm h n + h n)
    rw [sm_lin2 g h a c n, Int.mul_add, Int.mul_add]; omega
/-- what is left after the first row and column. -/
def schur (f : Int → Int → Int) : Int → Int → Int := fun i j => f 0 0 * f (i + 1) (j + 1) - f (i + 1) 0 * f 0 (j + 1)
theorem mul_np {a b : Int} (ha : 0 ≤ a) (hb : b ≤ 0) : a * b ≤ 0 := Int.mul_nonpos_of_nonneg_of_nonpos ha hb
theorem mul_nn {a b : Int} (ha : a ≤ 0) (hb : b ≤ 0) : 0 ≤ a * b := Int.mul_nonneg_of_nonpos_of_nonpos ha hb
theorem Dom.schur {n : Nat} {f : Int → Int → Int} (h : Dom (n + 1) f) : Dom n (Gh.schur f) := fun i hi => by
  have ha := h.diag (i := 0) (by omega)
  have hi1 := h (i + 1) (by omega)
  have h0 := h 0 (by omega)
  have hc : f ((i + 1 : Nat) : Int) ((0 : Nat) : Int) ≤ 0 := hi1.1 0 (by omega) (by omega)
  refine ⟨fun j hj hne => ?_, ?_⟩
  · have e1 : f ((i + 1 : Nat) : Int) ((j + 1 : Nat) : Int) ≤ 0 := hi1.1 (j + 1) (by omega) (by omega)
    have e2 : f ((0 : Nat) : Int) ((j + 1 : Nat) : Int) ≤ 0 := h0.1 (j + 1) (by omega) (by omega)
    have e3 := mul_np ha e1
    have e4 := mul_nn hc e2
    show f 0 0 * f ((i : Int) + 1) ((j : Int) + 1) - f ((i : Int) + 1) 0 * f 0 ((j : Int) + 1) ≤ 0
    simp only [Int.natCast_add, Int.natCast_one, Int.natCast_zero] at e3 e4
    omega
  · have e1 := hi1.2
    have e2 := h0.2
    rw [sm_head] at e1 e2
    show 0 ≤ sm (fun j => f 0 0 * f ((i : Int) + 1) ((j : Int) + 1) - f ((i : Int) + 1) 0 * f 0 ((j : Int) + 1)) n
    rw [sm_lin2 (fun j => f ((i : Int) + 1) ((j : Int) + 1)) (fun j => f 0 ((j : Int) + 1)) (f 0 0) (f ((i : Int) + 1) 0)]
    simp only [Int.natCast_add, Int.natCast_one, Int.natCast_zero] at e1 e2 hc ha
    generalize sm (fun j : Nat => f ((i : Int) + 1) ((j : Int) + 1)) n = S at *
    generalize sm (fun j : Nat => f 0 ((j : Int) + 1)) n = Z at *
    generalize f ((i : Int) + 1) 0 = c at *
    generalize f 0 0 = a at *
    have k1 : a * (-c) ≤ a * S := Int.mul_le_mul_of_nonneg_left (by omega) ha
    have k2 : (-c) * (-a) ≤ (-c) * Z := Int.mul_le_mul_of_nonneg_left (by omega) (by omega)
    rw [Int.mul_neg] at k1
    rw [Int.neg_mul_neg, Int.neg_mul, Int.mul_comm c a] at k2
    omega
/-- all rows but the first are multiplied. -/
theorem dt_scaleAll {n : Nat} (f : Int → Int → Int) (a : Int) : ∀ m, m < n → dt n (fun i j => if 1 ≤ i ∧ i ≤ (m : Nat) then a * f i j else f i j) = a ^ m * dt n f
  | 0, _ => by
    rw [Int.pow_zero, Int.one_mul]
    exact dt_congr n fun i j _ _ => if_neg (by omega)
  | m + 1, hm => by
    have ih := dt_scaleAll (n := n) f a m (by omega)
    have h2 := dt_scale (fun i j => if 1 ≤ i ∧ i ≤ (m : Nat) then a * f i j else f i j) (r := m + 1) hm a
    rw [ih] at h2
    rw [show a ^ (m + 1) * dt n f = a * (a ^ m * dt n f) by rw [Int.pow_succ, Int.mul_comm (a ^ m), Int.mul_assoc], ← h2]
    refine dt_congr n fun i j hi hj => ?_
    unfold setr
    show (if 1 ≤ (i : Int) ∧ (i : Int) ≤ ((m + 1 : Nat) : Int) then a * f i j else f i j) = _
    by_cases c : (i : Int) = ((m + 1 : Nat) : Int)
    · rw [if_pos c, if_pos (by omega)]
      try dsimp only
      rw [if_neg (by omega), c]
    · rw [if_neg c]
      show _ = if 1 ≤ (i : Int) ∧ (i : Int) ≤ (m : Nat) then a * f i j else f i j
      by_cases c2 : 1 ≤ (i : Int) ∧ (i : Int) ≤ (m : Nat)
      · rw [if_pos c2, if_pos (by omega)]
      · rw [if_neg c2, if_neg (by omega)]
theorem dt_schur (n : Nat) (f : Int → Int → Int) : f 0 0 ^ n * dt (n + 1) f = f 0 0 * dt n (schur f) := by
  have h1 := dt_scaleAll (n := n + 1) f (f 0 0) n (by omega)
  have h2 := dt_clear (n := n + 1) (fun i j => if 1 ≤ i ∧ i ≤ (n : Nat) then f 0 0 * f i j else f i j) (fun i => -f i 0) (by omega) (n + 1) (Nat.le_refl _)
  rw [← h1, ← h2, dt_col]
  · try dsimp only
    rw [if_neg (by omega), if_neg (by omega)]
    congr 1
    refine dt_congr n fun i j hi hj => ?_
    unfold dlr schur
    try dsimp only
    rw [if_neg (show ¬ (i : Int) < 0 by omega), if_pos (by omega), if_pos (by omega), if_neg (by omega), Int.neg_mul]
    omega
  · intro i h1 h2
    try dsimp only
    rw [if_pos (by omega), if_pos (by omega), if_neg (by omega), Int.neg_mul, Int.mul_comm (f i 0)]
    omega
theorem pow_pos' {a : Int} (h : 0 < a) : ∀ n : Nat, 0 < a ^ n
  | 0 => by simp
  | n + 1 => by rw [Int.pow_succ]; exact Int.mul_pos (pow_pos' h n) h
theorem dt_dom : ∀ (n : Nat) (f : Int → Int → Int), Dom n f → 0 ≤ dt n f ∧ dt n f ≤ pr (fun i => f i i) n
  | 0, f, _ => by simp [dt, pr]
  | n + 1, f, h => by
    have ha : 0 ≤ f 0 0 := h.diag (i := 0) (by omega)
    have hpr := pr_nonneg (g := fun i => f i i) (n + 1) fun i hi => h.diag hi
    by_cases h0 : f 0 0 = 0
    · have : dt (n + 1) f = 0 := by
        have e := dt_scale f (r := 0) (n := n + 1) (by omega) 0
        rw [Int.zero_mul] at e
        rw [← e]
        refine dt_congr (n + 1) fun i j hi hj => ?_
        unfold setr
        by_cases c : (i : Int) = ((0 : Nat) : Int)
        · rw [if_pos c]
          have := h.zrow (i := 0) (by omega) h0 hj
          rw [c, this]; simp
        · rw [if_neg c]
      rw [this]; exact ⟨Int.le_refl _, hpr⟩
    · have hs := dt_schur n f
      have ih := dt_dom n (schur f) h.schur
      have hle := pr_le (g := fun i => schur f i i) (h := fun i => f 0 0 * f ((i + 1 : Nat) : Int) ((i + 1 : Nat) : Int)) n fun i hi => ⟨h.schur.diag hi, by
        have e1 : f ((i + 1 : Nat) : Int) ((0 : Nat) : Int) ≤ 0 := (h (i + 1) (by omega)).1 0 (by omega) (by omega)
        have e2 : f ((0 : Nat) : Int) ((i + 1 : Nat) : Int) ≤ 0 := (h 0 (by omega)).1 (i + 1) (by omega) (by omega)
        have e3 := mul_nn e1 e2
        show f 0 0 * f ((i : Int) + 1) ((i : Int) + 1) - f ((i : Int) + 1) 0 * f 0 ((i : Int) + 1) ≤ _
        simp only [Int.natCast_add, Int.natCast_one, Int.natCast_zero] at e3 ⊢
        omega⟩
      rw [pr_scale (fun i => f ((i + 1 : Nat) : Int) ((i + 1 : Nat) : Int)) (f 0 0) n] at hle
      rw [pr_head]
      have hp := pow_pos' (show 0 < f 0 0 by omega) n
      have e0 : f ((0 : Nat) : Int) ((0 : Nat) : Int) = f 0 0 := rfl
      try dsimp only
      rw [e0]
      generalize pr (fun i => f ((i + 1 : Nat) : Int) ((i + 1 : Nat) : Int)) n = P at *
      generalize f 0 0 ^ n = q at *
      generalize f 0 0 = a at *
      generalize dt (n + 1) f = D at *
      constructor
      · have : 0 ≤ q * D := by rw [hs]; exact Int.mul_nonneg ha ih.1
        exact Int.nonneg_of_mul_nonneg_right this hp
      · have k1 : a * dt n (schur f) ≤ a * (q * P) := Int.mul_le_mul_of_nonneg_left (Int.le_trans ih.2 hle) ha
        rw [← hs, Int.mul_left_comm] at k1
        exact Int.le_of_mul_le_mul_left k1 hp
theorem dt_step {p : Int} {m : Nat} {G H : Int → Int → Int} {k : Int → Int} (h1 : ∀ i j : Nat, i < m → j < m → H i j % p = (G ((i : Int) + 1) ((j : Int) + 1) + k ((i : Int) + 1) * G 0 ((j : Int) + 1)) % p)
    (h2 : ∀ i : Nat, i < m → (G ((i : Int) + 1) 0 + k ((i : Int) + 1) * G 0 0) % p = 0) : dt (m + 1) G % p = G 0 0 * dt m H % p := by
  have e1 := dt_clear (n := m + 1) G k (by omega) (m + 1) (Nat.le_refl _)
  have e2 : dt (m + 1) (fun i j => if 1 ≤ i ∧ i < ((m + 1 : Nat) : Int) then G i j + k i * G 0 j else G i j) % p = dt (m + 1) (fun i j => if 1 ≤ i ∧ j = 0 then 0 else if 1 ≤ i ∧ i < ((m + 1 : Nat) : Int) then G i j + k i * G 0 j else G i j) % p := by
    refine dt_mod (m + 1) fun i j hi hj => ?_
    try dsimp only
    by_cases c : 1 ≤ (i : Int) ∧ (j : Int) = 0
    · rw [if_pos (by omega), if_pos c, c.2]
      have := h2 (i - 1) (by omega)
      rw [show (((i - 1 : Nat) : Int) + 1) = i by omega] at this
      rw [this, Int.zero_emod]
    · rw [if_neg c]
  have e3 := dt_col (n := m) (f := fun i j => if 1 ≤ i ∧ j = 0 then 0 else if 1 ≤ i ∧ i < ((m + 1 : Nat) : Int) then G i j + k i * G 0 j else G i j) (fun i hi _ => if_pos ⟨by omega, rfl⟩)
  rw [← e1, e2, e3]
  have e4 : dt m (dlr 0 (fun i j => if 1 ≤ i ∧ j = 0 then 0 else if 1 ≤ i ∧ i < ((m + 1 : Nat) : Int) then G i j + k i * G 0 j else G i j)) % p = dt m H % p := by
    refine dt_mod m fun i j hi hj => ?_
    unfold dlr
    rw [if_neg (show ¬ (i : Int) < 0 by omega)]
    try dsimp only
    rw [if_neg (by omega), if_pos (by omega), h1 i j hi hj]
  try dsimp only
  rw [if_neg (by omega), if_neg (by omega), Int.mul_emod, e4, ← Int.mul_emod]
def shf (c : Nat) (f : Int → Int → Int) : Int → Int → Int := fun i j => f (i + c) (j + c)
theorem shf_swp (f : Int → Int → Int) {c i : Nat} (h : c ≤ i) : shf c (swp f c i) = swp (shf c f) 0 ((i - c : Nat) : Int) := by
  funext a b
  unfold shf swp
  by_cases a1 : a = 0
  · rw [if_pos (by omega), if_pos a1]; dsimp only; congr 1; omega
  · by_cases a2 : a = ((i - c : Nat) : Int)
    · rw [if_neg (by omega), if_pos (by omega), if_neg a1, if_pos a2]; dsimp only; congr 1; omega
    · rw [if_neg (by omega), if_neg (by omega), if_neg a1, if_neg a2]
theorem swp_self (f : Int → Int → Int) (a : Int) : swp f a a = f := by
  funext i; unfold swp
  by_cases h : i = a
  · rw [if_pos h, h]
  · rw [if_neg h, if_neg h]
theorem dt_shf_swp {n c i : Nat} (f : Int → Int → Int) (h : c ≤ i) (hi : i < n) : dt (n - c) (shf c (swp f c i)) = if i = c then dt (n - c) (shf c f) else -dt (n - c) (shf c f) := by
  by_cases e : i = c
  · subst e; rw [swp_self, if_pos rfl]
  · rw [if_neg e, shf_swp f h]
    exact dt_swp (n := n - c) (shf c f) (r := 0) (s := i - c) (by omega) (by omega)
theorem clr0 {x inv lead p : Int} (h : lead * inv % p = 1) : (x + (p - x * inv % p) * lead) % p = 0 := by
  have h' : (x * inv % p * lead) % p = x % p := by rw [mul_mod_l, Int.mul_assoc, Int.mul_comm inv, ← mul_mod_r, h, Int.mul_one]
  have h2 : (x - x * inv % p * lead) % p = 0 := by rw [Int.sub_emod, h', Int.sub_self, Int.zero_emod]
  have e : x + (p - x * inv % p) * lead = (x - x * inv % p * lead) + p * lead := by rw [Int.sub_mul]; omega
  rw [e, Int.add_mul_emod_self_left]; exact h2
/-- the elimination of the program. -/
theorem elF_dt {p : Int} (hp : 1 < p) (hI : HasInv p) {n : Nat} {f : Int → Int → Int} (hr : Rng f p) : ∀ c, c ≤ n →
    ((elF p n f c).piv.length = c ∧ (elF p n f c).det * dt (n - c) (shf c (elF p n f c).f) % p = dt n f % p) ∨ ((elF p n f c).det = 0 ∧ dt n f % p = 0 ∧ (elF p n f c).piv.length ≤ c)
  | 0, _ => .inl ⟨rfl, by
    show 1 * dt n (shf 0 f) % p = _
    rw [Int.one_mul]
    congr 2
    funext i j; unfold shf; simp⟩
  | c + 1, hc => by
    have hrg := elF_rng (R := n) (by omega : 0 < p) hr c
    have hdt := elF_det hp n f c
    rcases elF_dt (n := n) hp hI hr c (by omega) with ⟨hl, hd⟩ | ⟨h0, hd, hl⟩
    · show ((elS p n (elF p n f c) c).piv.length = c + 1 ∧ (elS p n (elF p n f c) c).det * dt (n - (c + 1)) (shf (c + 1) (elS p n (elF p n f c) c).f) % p = dt n f % p) ∨ ((elS p n (elF p n f c) c).det = 0 ∧ dt n f % p = 0 ∧ (elS p n (elF p n f c) c).piv.length ≤ c + 1)
      generalize elF p n f c = s at *
      have hz : fstRow s.f c s.piv.length n = none → s.det * dt (n - c) (shf c s.f) = 0 := fun e => by
        have : dt (n - c) (shf c s.f) = 0 := by
          rw [show n - c = (n - c - 1) + 1 by omega]
          refine dt_zcol fun i hi => ?_
          unfold fstRow at e
          rw [List.find?_eq_none] at e
          have := e (i + c) (List.mem_range'_1.2 (by omega))
          simp at this
          unfold shf
          rw [Int.zero_add]; exact this
        rw [this, Int.mul_zero]
      unfold elS
      split
      · rename_i e
        refine .inr ⟨rfl, ?_, show s.piv.length ≤ c + 1 by omega⟩
        rw [hz e, Int.zero_emod] at hd
        exact hd.symm
      · rename_i i e
        have hs := fstRow_spec e
        rw [hl] at hs
        refine .inl ⟨by simp [hl], ?_⟩
        try dsimp only
        rw [hl]
        have hg : swp s.f c i c = s.f i := by unfold swp; rw [if_pos rfl]
        have h0 := hrg i c
        have hinv := hI _ (by omega : 0 < s.f i c) h0.2
        have hsw := dt_shf_swp (n := n) s.f hs.1 hs.2.1
        rw [hg]
        have hlead : shf c (swp s.f c i) 0 0 = s.f i c := by unfold shf; rw [Int.zero_add, hg]
        generalize swp s.f c i = g at *
        have hst := dt_step (p := p) (m := n - c - 1) (G := shf c g) (H := shf (c + 1) (clr (scl g c (invF (s.f i c) p) p) c c p)) (k := fun a => (p - g (a + c) c) * invF (s.f i c) p)
          (fun a b ha hb => by
            unfold shf clr
            rw [if_neg (by omega), Int.emod_emod_of_dvd _ (Int.dvd_refl p)]
            have e1 : ∀ j, scl g c (invF (s.f i c) p) p ((a : Int) + ((c + 1 : Nat) : Int)) j = g ((a : Int) + 1 + c) j := fun j => by
              unfold scl; rw [if_neg (by omega)]; congr 1; omega
            have e2 : ∀ j, scl g c (invF (s.f i c) p) p c j = g c j * invF (s.f i c) p % p := fun j => by unfold scl; rw [if_pos rfl]
            rw [e1, e1, e2, Int.zero_add, show (b : Int) + ((c + 1 : Nat) : Int) = (b : Int) + 1 + c by omega]
            rw [Int.add_emod, mul_mod_r, ← Int.add_emod, Int.mul_comm (g c _), Int.mul_assoc])
          (fun a ha => by
            unfold shf
            rw [Int.zero_add, hg, Int.mul_assoc, Int.mul_comm (invF _ _), Int.add_emod, ← mul_mod_r, hinv, Int.mul_one, ← Int.add_emod]
            rw [show ∀ x : Int, x + (p - x) = p from fun x => by omega, Int.emod_self])
        rw [hlead, show n - c - 1 + 1 = n - c by omega, show n - c - 1 = n - (c + 1) by omega] at hst
        rw [mul_mod_l, Int.mul_assoc, ← mul_mod_r, ← hst, mul_mod_r, hsw]
        by_cases c1 : i = c
        · rw [if_pos c1, if_pos c1]; exact hd
        · rw [if_neg c1, if_neg c1, mul_mod_l, Int.neg_mul_neg]; exact hd
    · refine .inr ⟨?_, hd, ?_⟩
      · show (elS p n (elF p n f c) c).det = 0
        unfold elS
        split
        · rfl
        · dsimp only; rw [h0]; simp
      · have := (elF_len p n f (c + 1)).2; omega
theorem elF_dt' {p : Int} (hp : 1 < p) (hI : HasInv p) {n : Nat} {f : Int → Int → Int} (hr : Rng f p) : (elF p n f n).det = dt n f % p := by
  have hb := elF_det hp n f n
  rcases elF_dt hp hI hr n (Nat.le_refl _) with ⟨_, h⟩ | ⟨h0, h, _⟩
  · rw [Nat.sub_self] at h
    rw [← h]
    show _ = _ * 1 % p
    rw [Int.mul_one, Int.emod_eq_of_lt hb.1 hb.2]
  · rw [h0, h]
/-- the elimination of the reference. -/
def lowr (f : Int → Int → Int) (c k p : Int) : Int → Int → Int := fun i j => if c < i ∧ c ≤ j then (f i j + (p - f i c * k % p) * f c j) % p else f i j
noncomputable def spS (p : Int) (R : Nat) (s : (Int → Int → Int) × Int) (c : Nat) : Option ((Int → Int → Int) × Int) :=
  match fstRow s.1 c c R with
  | none => none
  | some i => some (lowr (swp s.1 c i) c (invF (swp s.1 c i c c) p) p, (if i = c then s.2 else p - s.2) * swp s.1 c i c c % p)
noncomputable def spF (p : Int) (R : Nat) (f : Int → Int → Int) : Nat → Option ((Int → Int → Int) × Int)
  | 0 => some (f, 1)
  | c + 1 => (spF p R f c).bind fun s => spS p R s c
theorem Rng.lowr {f : Int → Int → Int} {p : Int} (h : Rng f p) (hp : 0 < p) (c k : Int) : Rng (Gh.lowr f c k p) p := fun i j => by
  unfold Gh.lowr; split
  · exact ⟨Int.emod_nonneg _ (by omega), Int.emod_lt_of_pos _ hp⟩
  · exact h i j
theorem spF_rng {p : Int} (hp : 1 < p) {n : Nat} {f : Int → Int → Int} (hr : Rng f p) : ∀ c s, spF p n f c = some s → Rng s.1 p ∧ 0 ≤ s.2 ∧ s.2 < p
  | 0, s, h => by cases h; exact ⟨hr, by dsimp only; omega, by dsimp only; omega⟩
  | c + 1, s, h => by
    unfold spF at h
    obtain ⟨t, h1, h2⟩ := Option.bind_eq_some_iff.1 h
    have ih := spF_rng hp hr c t h1
    unfold spS at h2
    split at h2
    · cases h2
    · cases h2
      exact ⟨(ih.1.swp _ _).lowr (by omega) _ _, Int.emod_nonneg _ (by omega), Int.emod_lt_of_pos _ (by omega)⟩
theorem spF_dt {p : Int} (hp : 1 < p) (hI : HasInv p) {n : Nat} {f : Int → Int → Int} (hr : Rng f p) : ∀ c, c ≤ n →
    (∀ s, spF p n f c = some s → s.2 * dt (n - c) (shf c s.1) % p = dt n f % p) ∧ (spF p n f c = none → dt n f % p = 0)
  | 0, _ => ⟨fun s h => by
    cases h
    show 1 * dt n (shf 0 f) % p = _
    rw [Int.one_mul]
    congr 2
    funext i j; unfold shf; simp, fun h => by cases h⟩
  | c + 1, hc => by
    have ih := spF_dt (n := n) hp hI hr c (by omega)
    have hz : ∀ t, spF p n f c = some t → fstRow t.1 c c n = none → dt n f % p = 0 := fun t ht e => by
      have hd := ih.1 t ht
      have : dt (n - c) (shf c t.1) = 0 := by
        rw [show n - c = (n - c - 1) + 1 by omega]
        refine dt_zcol fun i hi => ?_
        unfold fstRow at e
        rw [List.find?_eq_none] at e
        have := e (i + c) (List.mem_range'_1.2 (by omega))
        simp at this
        unfold shf
        rw [Int.zero_add]; exact this
      rw [this, Int.mul_zero, Int.zero_emod] at hd
      exact hd.symm
    constructor
    · intro s h
      unfold spF at h
      obtain ⟨t, h1, h2⟩ := Option.bind_eq_some_iff.1 h
      have hrg := (spF_rng hp hr c t h1).1
      have hd := ih.1 t h1
      unfold spS at h2
      split at h2
      · cases h2
      · rename_i i e
        cases h2
        have hs := fstRow_spec e
        try dsimp only
        have hg : swp t.1 c i c = t.1 i := by unfold swp; rw [if_pos rfl]
        have h0 := hrg i c
        have hinv := hI _ (by omega : 0 < t.1 i c) h0.2
        have hsw := dt_shf_swp (n := n) t.1 hs.1 hs.2.1
        rw [hg]
        have hlead : shf c (swp t.1 c i) 0 0 = t.1 i c := by unfold shf; rw [Int.zero_add, hg]
        generalize swp t.1 c i = g at *
        have hst := dt_step (p := p) (m := n - c - 1) (G := shf c g) (H := shf (c + 1) (lowr g c (invF (t.1 i c) p) p)) (k := fun a => p - g (a + c) c * invF (t.1 i c) p % p)
          (fun a b ha hb => by
            unfold shf lowr
            rw [if_pos (by omega), Int.emod_emod_of_dvd _ (Int.dvd_refl p), Int.zero_add, show (a : Int) + ((c + 1 : Nat) : Int) = (a : Int) + 1 + c by omega, show (b : Int) + ((c + 1 : Nat) : Int) = (b : Int) + 1 + c by omega])
          (fun a ha => by
            unfold shf
            rw [Int.zero_add, hg]
            exact clr0 hinv)
        rw [hlead, show n - c - 1 + 1 = n - c by omega, show n - c - 1 = n - (c + 1) by omega] at hst
        rw [mul_mod_l, Int.mul_assoc, ← mul_mod_r, ← hst, mul_mod_r, hsw]
        by_cases c1 : i = c
        · rw [if_pos c1, if_pos c1]; exact hd
        · rw [if_neg c1, if_neg c1, Int.mul_neg, Int.sub_mul, Int.neg_sub, Int.sub_emod, Int.mul_emod_right, Int.sub_zero, Int.emod_emod_of_dvd _ (Int.dvd_refl p)]; exact hd
    · intro h
      unfold spF at h
      cases ht : spF p n f c with
      | none => exact ih.2 ht
      | some t =>
        rw [ht] at h
        simp only [Option.bind_some] at h
        unfold spS at h
        split at h
        · rename_i e; exact hz t ht e
        · cases h
noncomputable def spDet (p : Int) (n : Nat) (f : Int → Int → Int) : Int := match spF p n f n with
  | none => 0
  | some s => s.2 % p
theorem spDet_dt {p : Int} (hp : 1 < p) (hI : HasInv p) {n : Nat} {f : Int → Int → Int} (hr : Rng f p) : spDet p n f = dt n f % p := by
  have h := spF_dt hp hI hr n (Nat.le_refl _)
  unfold spDet
  split
  · rename_i e; exact (h.2 e).symm
  · rename_i s e
    have := h.1 s e
    rw [Nat.sub_self] at this
    rw [← this]
    show _ = _ * 1 % p
    rw [Int.mul_one]
def ch : Nat → Nat → Nat
  | _, 0 => 1
  | 0, _ + 1 => 0
  | n + 1, k + 1 => ch n k + ch n (k + 1)
theorem ch_zero : ∀ {n k : Nat}, n < k → ch n k = 0
  | _, 0, h => by omega
  | 0, k + 1, _ => rfl
  | n + 1, k + 1, h => by show ch n k + ch n (k + 1) = 0; rw [ch_zero (by omega), ch_zero (by omega)]
theorem ch_self : ∀ n, ch n n = 1
  | 0 => rfl
  | n + 1 => by show ch n n + ch n (n + 1) = 1; rw [ch_self n, ch_zero (by omega)]
theorem ch_mul : ∀ n k, ch (n + 1) (k + 1) * (k + 1) = (n + 1) * ch n k
  | 0, 0 => rfl
  | 0, k + 1 => by
    show (ch 0 (k + 1) + ch 0 (k + 2)) * (k + 1 + 1) = (0 + 1) * ch 0 (k + 1)
    simp [ch]
  | n + 1, 0 => by
    have h := ch_mul n 0
    show (ch (n + 1) 0 + ch (n + 1) 1) * 1 = (n + 1 + 1) * ch (n + 1) 0
    have e0 : ch (n + 1) 0 = 1 := by cases n <;> rfl
    have e1 : ch n 0 = 1 := by cases n <;> rfl
    rw [e0]; rw [e1] at h
    simp at h ⊢; omega
  | n + 1, k + 1 => by
    have h1 := ch_mul n k
    have h2 := ch_mul n (k + 1)
    have e : ch (n + 1) (k + 1) = ch n k + ch n (k + 1) := rfl
    show (ch (n + 1) (k + 1) + ch (n + 1) (k + 2)) * (k + 1 + 1) = (n + 1 + 1) * ch (n + 1) (k + 1)
    rw [Nat.add_mul, h2, Nat.mul_add (ch (n + 1) (k + 1)), h1, Nat.mul_one, Nat.add_mul (n + 1) 1, Nat.one_mul]
    rw [show (n + 1) * ch (n + 1) (k + 1) = (n + 1) * ch n k + (n + 1) * ch n (k + 1) by rw [e, Nat.mul_add]]
    omega
theorem prime_dvd {p k : Nat} (hp : ∀ d, d ∣ p → d = 1 ∨ d = p) (h0 : 0 < k) (h1 : k < p) : Nat.Coprime p k := by
  rcases hp (Nat.gcd p k) (Nat.gcd_dvd_left p k) with h | h
  · exact h
  · have := Nat.le_of_dvd h0 (h ▸ Nat.gcd_dvd_right p k); omega
theorem ch_dvd {p k : Nat} (hp : ∀ d, d ∣ p → d = 1 ∨ d = p) (h0 : 0 < k) (h1 : k < p) : p ∣ ch p k := by
  obtain ⟨n, rfl⟩ : ∃ n, p = n + 1 := ⟨p - 1, by omega⟩
  obtain ⟨j, rfl⟩ : ∃ j, k = j + 1 := ⟨k - 1, by omega⟩
  have h := ch_mul n j
  exact (prime_dvd hp h0 h1).dvd_of_dvd_mul_right ⟨ch n j, h⟩
def smN (g : Nat → Nat) : Nat → Nat
  | 0 => 0
  | n + 1 => smN g n + g n
theorem smN_head (g : Nat → Nat) : ∀ n, smN g (n + 1) = g 0 + smN (fun i => g (i + 1)) n
  | 0 => by simp [smN]
  | n + 1 => by
    show smN g (n + 1) + g (n + 1) = g 0 + (smN (fun i => g (i + 1)) n + g (n + 1))
    rw [smN_head g n]; omega
theorem smN_add (g h : Nat → Nat) : ∀ n, smN (fun i => g i + h i) n = smN g n + smN h n
  | 0 => rfl
  | n + 1 => by simp only [smN, smN_add g h n]; omega
theorem smN_mul (g : Nat → Nat) (a : Nat) : ∀ n, smN (fun i => a * g i) n = a * smN g n
  | 0 => rfl
  | n + 1 => by simp only [smN, smN_mul g a n, Nat.mul_add]
theorem smN_congr {g h : Nat → Nat} : ∀ n, (∀ i, i < n → g i = h i) → smN g n = smN h n
  | 0, _ => rfl
  | n + 1, hh => by simp only [smN]; rw [smN_congr n fun i hi => hh i (by omega), hh n (by omega)]
theorem binom (x : Nat) : ∀ n, (x + 1) ^ n = smN (fun k => ch n k * x ^ k) (n + 1)
  | 0 => by simp [smN, ch]
  | n + 1 => by
    rw [Nat.pow_succ, binom x n, Nat.mul_add, Nat.mul_one]
    rw [smN_head (fun k => ch (n + 1) k * x ^ k) (n + 1)]
    have e1 : smN (fun i => ch (n + 1) (i + 1) * x ^ (i + 1)) (n + 1) = smN (fun i => x * (ch n i * x ^ i) + ch n (i + 1) * x ^ (i + 1)) (n + 1) := smN_congr _ fun i _ => by
      show (ch n i + ch n (i + 1)) * x ^ (i + 1) = _
      rw [Nat.add_mul, Nat.pow_succ, Nat.mul_left_comm x, Nat.mul_comm x]
    rw [e1, smN_add, smN_mul (fun i => ch n i * x ^ i) x]
    have e2 : smN (fun i => ch n (i + 1) * x ^ (i + 1)) (n + 1) = smN (fun i => ch n (i + 1) * x ^ (i + 1)) n := by
      show _ + ch n (n + 1) * x ^ (n + 1) = _
      rw [ch_zero (by omega)]; simp
    have e3 := smN_head (fun k => ch n k * x ^ k) n
    have e4 : ch n 0 = 1 := by cases n <;> rfl
    have e5 : ch (n + 1) 0 = 1 := rfl
    try dsimp only at e3
    rw [e2, e5]
    rw [e4] at e3
    rw [Nat.mul_comm _ x]
    omega
theorem smN_dvd {g : Nat → Nat} {p : Nat} : ∀ n, (∀ i, i < n → p ∣ g i) → p ∣ smN g n
  | 0, _ => Nat.dvd_zero p
  | n + 1, h => Nat.dvd_add (smN_dvd n fun i hi => h i (by omega)) (h n (by omega))
theorem fermat {p : Nat} (h1 : 1 < p) (hp : ∀ d, d ∣ p → d = 1 ∨ d = p) : ∀ a : Nat, a ^ p % p = a % p
  | 0 => by rw [Nat.zero_pow (by omega)]
  | a + 1 => by
    rw [binom a p]
    show (smN (fun k => ch p k * a ^ k) p + ch p p * a ^ p) % p = _
    rw [ch_self, Nat.one_mul]
    obtain ⟨n, rfl⟩ : ∃ n, p = n + 1 := ⟨p - 1, by omega⟩
    rw [smN_head]
    have e4 : ch (n + 1) 0 = 1 := rfl
    have hd : (n + 1) ∣ smN (fun i => ch (n + 1) (i + 1) * a ^ (i + 1)) n := smN_dvd n fun i hi => Nat.dvd_mul_right_of_dvd (ch_dvd hp (by omega) (by omega)) _
    try dsimp only
    rw [e4, Nat.pow_zero, Nat.one_mul, Nat.add_mod, Nat.add_mod 1, Nat.mod_eq_zero_of_dvd hd, Nat.add_zero, Nat.mod_mod, ← Nat.add_mod, Nat.add_mod, fermat h1 hp a, ← Nat.add_mod, Nat.add_comm]
theorem pw_pow {a p : Nat} : ∀ n, pw (a : Int) p n % (p : Int) = ((a ^ n % p : Nat) : Int)
  | 0 => by simp [pw]
  | n + 1 => by
    show pw (a : Int) p n * a % p % p = _
    rw [Int.emod_emod_of_dvd _ (Int.dvd_refl _), ← mul_mod_l, pw_pow n, Nat.pow_succ]
    push_cast
    rw [mul_mod_l]
theorem hasInv_prime {p : Nat} (h1 : 2 < p) (hp : ∀ d, d ∣ p → d = 1 ∨ d = p) : HasInv p := by
  intro a h0 ha
  obtain ⟨b, rfl⟩ : ∃ b : Nat, a = b := ⟨a.toNat, by omega⟩
  unfold invF
  rw [show ((p : Int) - 2).toNat = p - 2 by omega, ← mul_mod_r, pw_pow, Int.natCast_emod, mul_mod_r]
  have hf := fermat (by omega) hp b
  have e : b ^ p = b * (b * b ^ (p - 2)) := by
    have : p = (p - 2) + 1 + 1 := by omega
    rw [this, Nat.pow_succ, Nat.pow_succ]
    rw [show (p - 2 + 1 + 1) - 2 = p - 2 by omega, Nat.mul_comm (b ^ (p - 2) * b) b, Nat.mul_comm (b ^ (p - 2)) b]
  rw [e] at hf
  have hge : 1 ≤ b * b ^ (p - 2) := Nat.mul_pos (by omega) (Nat.pow_pos (by omega))
  have hdvd : p ∣ b * (b * b ^ (p - 2) - 1) := by
    rw [Nat.mul_sub, Nat.mul_one]
    exact Nat.dvd_of_mod_eq_zero (Nat.sub_mod_eq_zero_of_mod_eq hf)
  have h2 := (prime_dvd hp (by omega : 0 < b) (by omega)).dvd_of_dvd_mul_left hdvd
  obtain ⟨c, hc⟩ := h2
  have : b * b ^ (p - 2) = p * c + 1 := by omega
  have h3 : (b * b ^ (p - 2)) % p = 1 := by rw [this, Nat.mul_add_mod, Nat.mod_eq_of_lt (by omega)]
  have := congrArg (Nat.cast (R := Int)) h3
  push_cast at this
  exact this
/-- no divisor from k on, for as many as the fuel. -/
def noDiv (p : Nat) : Nat → Nat → Bool
  | 0, _ => true
  | f + 1, k => if p % k = 0 then false else noDiv p f (k + 1)
theorem noDiv_ok {p : Nat} : ∀ {f k : Nat}, noDiv p f k = true → ∀ d, k ≤ d → d < k + f → p % d ≠ 0
  | 0, k, _, d, h1, h2 => by omega
  | f + 1, k, h, d, h1, h2 => by
    unfold noDiv at h
    split at h
    · cases h
    · rename_i h0
      by_cases e : d = k
      · rw [e]; exact h0
      · exact noDiv_ok h d (by omega) (by omega)
theorem prime_of {p f : Nat} (h1 : 1 < p) (h : noDiv p f 2 = true) (hf : p < (f + 2) * (f + 2)) : ∀ d, d ∣ p → d = 1 ∨ d = p := by
  intro d hd
  obtain ⟨e, he⟩ := hd
  have hd0 : 0 < d := Nat.pos_of_ne_zero fun x => by rw [x] at he; omega
  have he0 : 0 < e := Nat.pos_of_ne_zero fun x => by rw [x] at he; omega
  by_cases c1 : d < f + 2
  · by_cases c2 : d = 1
    · exact .inl c2
    · exact absurd (by rw [he]; exact Nat.mul_mod_right d e) (noDiv_ok h d (by omega) (by omega))
  · have c3 : e < f + 2 := by
      apply Classical.byContradiction
      intro c
      have : (f + 2) * (f + 2) ≤ d * e := Nat.mul_le_mul (by omega) (by omega)
      omega
    by_cases c4 : e = 1
    · exact .inr (by rw [he, c4, Nat.mul_one])
    · exact absurd (by rw [he]; exact Nat.mul_mod_left d e) (noDiv_ok h e (by omega) (by omega))
theorem hasInv_7 : HasInv 1000000007 := hasInv_prime (p := 1000000007) (by omega) (prime_of (f := 31630) (by omega) (by decide +kernel) (by decide))
theorem hasInv_9 : HasInv 1000000009 := hasInv_prime (p := 1000000009) (by omega) (prime_of (f := 31630) (by omega) (by decide +kernel) (by decide))
theorem hasInv_3 : HasInv 998244353 := hasInv_prime (p := 998244353) (by omega) (prime_of (f := 31630) (by omega) (by decide +kernel) (by decide))
theorem Own.ne {G : GH} {A : Option Addr} {c sz n x : Nat} {cs : List Value} (h : Own G A c cs sz n) (hx : G x = none) : ∀ a, A = some a → a.block ≠ x := fun a ha e => by
  rcases h with ⟨h1, _⟩ | ⟨y, r, h1, h2, _⟩
  · rw [h1] at ha; cases ha
  · rw [h1] at ha; cases ha
    dsimp only at e
    rw [e, hx] at h2; cases h2
theorem Own.put {G : GH} {A : Option Addr} {c sz n b : Nat} {cs : List Value} (h : Own G A c cs sz n) (hne : ∀ a, A = some a → a.block ≠ b) (e : Ent) : Own (Gh.put G b e) A c cs sz n := by
  rcases h with h | ⟨b', r, h1, h2, h3⟩
  · exact .inl h
  · exact .inr ⟨b', r, h1, by rw [put_ne _ _ (hne _ h1)]; exact h2, h3⟩
theorem lap_row {N : Gra} (hn : GraOk N) (i : Int) : ∀ k : Nat, k ≤ N.edges.length → sumN (fun j => lapK N.edges k i j) N.n.toNat = 0
  | 0, _ => by simp only [lapK]; exact sumN_zero _
  | k + 1, hk => by
    have h1 := hn.1
    obtain ⟨o1, o2, o3, o4⟩ := hn.2.1 k (by omega)
    have e : (fun j => lapK N.edges (k + 1) i j) = fun j => lapK N.edges k i j + ((if j = (N.edges.getD k z3).1 then (if i = (N.edges.getD k z3).1 then (N.edges.getD k z3).2.2 else 0) - (if i = (N.edges.getD k z3).2.1 then (N.edges.getD k z3).2.2 else 0) else 0) + (if j = (N.edges.getD k z3).2.1 then (if i = (N.edges.getD k z3).2.1 then (N.edges.getD k z3).2.2 else 0) - (if i = (N.edges.getD k z3).1 then (N.edges.getD k z3).2.2 else 0) else 0)) := funext fun j => by
      rw [lapK_step hn.okE (by omega)]
      (repeat' split) <;> omega
    rw [e, sumN_add, lap_row hn i k (by omega), sumN_add, sumN_one _ _ o1, sumN_one _ _ (show 0 ≤ (N.edges.getD k z3).2.1 by omega), if_pos (show (N.edges.getD k z3).1 < (N.n.toNat : Int) by omega), if_pos (show (N.edges.getD k z3).2.1 < (N.n.toNat : Int) by omega)]
    (repeat' split) <;> omega
def lsum (g : Int → Int) (ks : List Int) : Int := (ks.map g).sum
theorem lsum_app (g : Int → Int) (a b : List Int) : lsum g (a ++ b) = lsum g a + lsum g b := by simp [lsum]
theorem lsum_iota (g : Int → Int) : ∀ n, lsum g (iota n) = sumN g n
  | 0 => rfl
  | n + 1 => by rw [iota_succ, lsum_app, lsum_iota g n]; simp [lsum, sumN]
theorem lsum_filter (g : Int → Int) (P : Int → Bool) : ∀ l : List Int, (∀ v ∈ l, P v = false → g v ≤ 0) → lsum g l ≤ lsum g (l.filter P)
  | [], _ => Int.le_refl _
  | a :: l, h => by
    have ih := lsum_filter g P l fun v hv => h v (List.mem_cons_of_mem _ hv)
    have ha := h a List.mem_cons_self
    have e : lsum g (a :: l) = g a + lsum g l := by simp [lsum]
    by_cases hp : P a = true
    · rw [List.filter_cons_of_pos hp, e]
      have e2 : lsum g (a :: l.filter P) = g a + lsum g (l.filter P) := by simp [lsum]
      omega
    · rw [List.filter_cons_of_neg hp, e]
      have := ha (by simpa using hp); omega
theorem lsum_neg (g : Int → Int) : ∀ l : List Int, lsum (fun v => -g v) l = -lsum g l
  | [] => rfl
  | a :: l => by
    have e : lsum g (a :: l) = g a + lsum g l := by simp [lsum]
    have e2 : lsum (fun v => -g v) (a :: l) = -g a + lsum (fun v => -g v) l := by simp [lsum]
    rw [e, e2, lsum_neg g l]; omega
theorem sm_lsum (g : Int → Int) : ∀ ks : List Int, sm (fun j => g (ks.getD j 0)) ks.length = lsum g ks
  | [] => rfl
  | a :: ks => by
    have e : lsum g (a :: ks) = g a + lsum g ks := by simp [lsum]
    rw [List.length_cons, sm_head, e, ← sm_lsum g ks]; rfl
/-- the nodes that are kept, and the rows and columns of these. -/
def keep (n : Nat) (om : List Int) : List Int := (iota n).filter fun v => !om.contains v
def sub (ks : List Int) (f : Int → Int → Int) : Int → Int → Int := fun i j => f (ks.getD i.toNat 0) (ks.getD j.toNat 0)
theorem iota_nodup (n : Nat) : (iota n).Nodup := by
  unfold iota
  exact List.Pairwise.map _ (fun a b h e => h (by omega)) List.nodup_range
theorem nodup_inj {l : List Int} (h : l.Nodup) {i j : Nat} (hi : i < l.length) (hj : j < l.length) (e : l[i] = l[j]) : i = j := by
  have hp := List.pairwise_iff_getElem.1 h
  rcases Nat.lt_trichotomy i j with c | c | c
  · exact absurd e (hp i j hi hj c)
  · exact c
  · exact absurd e.symm (hp j i hj hi c)
theorem keep_nodup (n : Nat) (om : List Int) : (keep n om).Nodup := (iota_nodup n).filter _
theorem mem_iota {n : Nat} {x : Int} : x ∈ iota n ↔ 0 ≤ x ∧ x < n := by
  simp only [iota, List.mem_map, List.mem_range]
  constructor
  · rintro ⟨a, h, rfl⟩; omega
  · intro h; exact ⟨x.toNat, by omega, by omega⟩
theorem lap_off {N : Gra} (hn : GraOk N) {i j : Int} (hij : i ≠ j) : ∀ k : Nat, k ≤ N.edges.length → lapK N.edges k i j ≤ 0
  | 0, _ => Int.le_refl _
  | k + 1, hk => by
    have ih := lap_off hn hij k (by omega)
    obtain ⟨o1, o2, o3, o4⟩ := hn.2.1 k (by omega)
    rw [lapK_step hn.okE (by omega)]
    (repeat' split) <;> omega
theorem lap_diag {N : Gra} (hn : GraOk N) : ∀ k : Nat, k ≤ N.edges.length → (∀ v, 0 ≤ lapK N.edges k v v) ∧ sumN (fun v => lapK N.edges k v v) N.n.toNat ≤ 18 * k
  | 0, _ => ⟨fun v => Int.le_refl _, by simp only [lapK]; rw [sumN_zero]; omega⟩
  | k + 1, hk => by
    have ih := lap_diag hn k (by omega)
    have h1 := hn.1
    obtain ⟨o1, o2, o3, o4⟩ := hn.2.1 k (by omega)
    have e : (fun v => lapK N.edges (k + 1) v v) = fun v => lapK N.edges k v v + ((if v = (N.edges.getD k z3).1 then (N.edges.getD k z3).2.2 else 0) + (if v = (N.edges.getD k z3).2.1 then (N.edges.getD k z3).2.2 else 0)) := funext fun v => by
      rw [lapK_step hn.okE (by omega)]
      (repeat' split) <;> omega
    refine ⟨fun v => ?_, ?_⟩
    · have := congrFun e v
      try dsimp only at this
      rw [this]
      have := ih.1 v
      (repeat' split) <;> omega
    · rw [e, sumN_add, sumN_add, sumN_one _ _ o1, sumN_one _ _ (show 0 ≤ (N.edges.getD k z3).2.1 by omega), if_pos (show (N.edges.getD k z3).1 < (N.n.toNat : Int) by omega), if_pos (show (N.edges.getD k z3).2.1 < (N.n.toNat : Int) by omega)]
      have := ih.2
      omega
theorem minor_dom {N : Gra} (hn : GraOk N) (om : List Int) : Dom (keep N.n.toNat om).length (sub (keep N.n.toNat om) (lapK N.edges N.edges.length)) := fun i hi => by
  have hnd := keep_nodup N.n.toNat om
  refine ⟨fun j hj hne => ?_, ?_⟩
  · unfold sub
    rw [Int.toNat_natCast, Int.toNat_natCast]
    refine lap_off hn (fun e => hne ?_) _ (Nat.le_refl _)
    simp only [List.getD, List.getElem?_eq_getElem hi, List.getElem?_eq_getElem hj, Option.getD_some] at e
    exact nodup_inj hnd hj hi e.symm
  · unfold sub
    simp only [Int.toNat_natCast]
    have hu : (keep N.n.toNat om).getD i 0 ∈ keep N.n.toNat om := by simp [List.getD, hi]
    generalize (keep N.n.toNat om).getD i 0 = u at *
    have h1 := sm_lsum (lapK N.edges N.edges.length u) (keep N.n.toNat om)
    rw [h1]
    have h2 := lsum_filter (lapK N.edges N.edges.length u) (fun v => !om.contains v) (iota N.n.toNat) fun v hv hp => lap_off hn (fun e => by
      subst e
      have := (List.mem_filter.1 hu).2
      rw [this] at hp; cases hp) _ (Nat.le_refl _)
    rw [lsum_iota, lap_row hn u _ (Nat.le_refl _)] at h2
    exact h2
/-- products of few numbers with a small sum. -/
theorem one_bound : ∀ d : Nat, d < 433 → d * 39 ^ d ≤ 15 * 40 ^ d := by decide +kernel
theorem all_bound : ∀ s : Nat, s < 433 → 15 ^ 11 * 40 ^ s < 998244353000000000 * 39 ^ s := by decide +kernel
theorem pr_bound : ∀ (ds : List Nat), ds.sum < 433 → ds.prod * 39 ^ ds.sum ≤ 15 ^ ds.length * 40 ^ ds.sum
  | [], _ => by simp
  | d :: ds, h => by
    rw [List.sum_cons] at h
    have ih := pr_bound ds (by omega)
    have h1 := one_bound d (by omega)
    have e1 : 39 ^ (d + ds.sum) = 39 ^ d * 39 ^ ds.sum := Nat.pow_add _ _ _
    have e2 : 40 ^ (d + ds.sum) = 40 ^ d * 40 ^ ds.sum := Nat.pow_add _ _ _
    have e3 : 15 ^ (ds.length + 1) = 15 ^ ds.length * 15 := Nat.pow_succ _ _
    rw [List.sum_cons, List.prod_cons, List.length_cons, e1, e2, e3]
    have := Nat.mul_le_mul h1 ih
    calc d * ds.prod * (39 ^ d * 39 ^ ds.sum) = d * 39 ^ d * (ds.prod * 39 ^ ds.sum) := by ac_rfl
      _ ≤ 15 * 40 ^ d * (15 ^ ds.length * 40 ^ ds.sum) := this
      _ = 15 ^ ds.length * 15 * (40 ^ d * 40 ^ ds.sum) := by ac_rfl
theorem pr_small {ds : List Nat} (h : ds.sum < 433) (hl : ds.length ≤ 11) : ds.prod < 998244353000000000 := by
  have h1 := pr_bound ds h
  have h2 := all_bound ds.sum h
  have h3 : 15 ^ ds.length * 40 ^ ds.sum ≤ 15 ^ 11 * 40 ^ ds.sum := Nat.mul_le_mul_right _ (Nat.pow_le_pow_right (by omega) hl)
  have h4 : ds.prod * 39 ^ ds.sum < 998244353000000000 * 39 ^ ds.sum := by omega
  exact Nat.lt_of_mul_lt_mul_right h4
theorem pr_list {g : Int → Int} : ∀ ks : List Int, (∀ v ∈ ks, 0 ≤ g v) → pr (fun i => g (ks.getD i 0)) ks.length = (((ks.map fun v => (g v).toNat).prod : Nat) : Int) ∧ lsum g ks = (((ks.map fun v => (g v).toNat).sum : Nat) : Int)
  | [], _ => by simp [pr, lsum]
  | a :: ks, h => by
    have ih := pr_list (g := g) ks fun v hv => h v (List.mem_cons_of_mem _ hv)
    have ha := h a List.mem_cons_self
    have e : lsum g (a :: ks) = g a + lsum g ks := by simp [lsum]
    rw [List.length_cons, pr_head, List.map_cons, List.prod_cons, List.sum_cons, e, ih.2]
    refine ⟨?_, by omega⟩
    have e2 : (fun i => g ((a :: ks).getD (i + 1) 0)) = fun i => g (ks.getD i 0) := rfl
    rw [e2, ih.1, Int.natCast_mul, Int.toNat_of_nonneg ha]; rfl
/-- minors of the Laplacian: not negative, and below the product of the two primes. -/
theorem minor_bd {N : Gra} (hn : GraOk N) (om : List Int) (hl : (keep N.n.toNat om).length ≤ 11) : 0 ≤ dt (keep N.n.toNat om).length (sub (keep N.n.toNat om) (lapK N.edges N.edges.length)) ∧ dt (keep N.n.toNat om).length (sub (keep N.n.toNat om) (lapK N.edges N.edges.length)) < 998244353000000000 := by
  have h := dt_dom _ _ (minor_dom hn om)
  refine ⟨h.1, Int.lt_of_le_of_lt h.2 ?_⟩
  have hd := lap_diag hn _ (Nat.le_refl _)
  have hp := pr_list (g := fun v => lapK N.edges N.edges.length v v) (keep N.n.toNat om) fun v _ => hd.1 v
  have e : (fun i : Nat => sub (keep N.n.toNat om) (lapK N.edges N.edges.length) i i) = fun i => (fun v => lapK N.edges N.edges.length v v) ((keep N.n.toNat om).getD i 0) := by
    funext i; unfold sub; rw [Int.toNat_natCast]
  rw [e, hp.1]
  have hs := lsum_filter (fun v => -lapK N.edges N.edges.length v v) (fun v => !om.contains v) (iota N.n.toNat) fun v _ _ => by have := hd.1 v; omega
  rw [lsum_neg, lsum_neg, lsum_iota] at hs
  have h4 := hn.2.2.2
  have hp2 := hp.2
  have h5 := hd.2
  have := pr_small (ds := (keep N.n.toNat om).map fun v => (lapK N.edges N.edges.length v v).toNat) (by
    unfold keep at hp2 ⊢
    omega) (by rw [List.length_map]; exact hl)
  omega
/-- the Chinese rest. -/
theorem crt {D p q r : Int} (hp : 0 < p) (hq : 0 < q) (hr : p * r % q = 1) (h0 : 0 ≤ D) (h1 : D < q * p) : D % p + p * ((D % q - D % p) % q * r % q) = D := by
  have hd := Int.mul_ediv_add_emod D p
  have ht0 : 0 ≤ D / p := Int.ediv_nonneg h0 (by omega)
  have ht1 : D / p < q := Int.ediv_lt_of_lt_mul hp h1
  have e : (D % q - D % p) % q * r % q = D / p := by
    rw [mul_mod_l, ← mul_mod_l, Int.sub_emod, Int.emod_emod_of_dvd _ (Int.dvd_refl q), ← Int.sub_emod, mul_mod_l]
    rw [show D - D % p = p * (D / p) by omega, Int.mul_assoc, Int.mul_comm (D / p) r, ← Int.mul_assoc, ← mul_mod_l, hr, Int.one_mul]
    exact Int.emod_eq_of_lt ht0 ht1
  rw [e]; omega
/-- rows to be read. -/
def RowsS (G : GH) (B : Option Addr) (R C : Nat) (f : Int → Int → Int) : Prop := ∃ (A : Nat → Option Addr) (c : Nat → Nat), (∀ i, i < R → rd G (pa B i) = some (.slice (A i) C (c i))) ∧ ∀ i : Nat, i < R → IntS G (A i) (c i) (rowL C (f i))
theorem RowsS.sub {G G' : GH} {B : Option Addr} {R C : Nat} {f : Int → Int → Int} (h : RowsS G B R C f) (s : Sub G G') : RowsS G' B R C f := by
  obtain ⟨A, c, h1, h2⟩ := h
  exact ⟨A, c, fun i hi => rd_sub s (h1 i hi), fun i hi => (h2 i hi).sub s⟩
/-- rows that are being built, in a list of one's own. -/
def Bld (H G : GH) (B : Option Addr) (cb k C : Nat) (f : Int → Int → Int) : Prop := Sub H G ∧ Off H B ∧ ∃ (A : Nat → Option Addr) (c : Nat → Nat), Own G B cb (rowsC A c k C) 1 k ∧ ∀ i : Nat, i < k → IntS (wo G B) (A i) (c i) (rowL C (f i))
theorem Bld.nil (G : GH) (C : Nat) (f : Int → Int → Int) : Bld G G none 0 0 C f := ⟨Sub.refl _, Off.nil _, fun _ => none, fun _ => 0, Own.nil _ _, fun i hi => by omega⟩
theorem Bld.up {H G G' : GH} {B : Option Addr} {cb k C : Nat} {f : Int → Int → Int} (h : Bld H G B cb k C f) (s : Sub G G') : Bld H G' B cb k C f := by
  obtain ⟨h1, h2, A, c, h3, h4⟩ := h
  exact ⟨h1.trans s, h2, A, c, h3.sub s, fun i hi => (h4 i hi).sub (wo_mono s B)⟩
theorem New.wo {G G' : GH} {A Z : Option Addr} {c : Nat} {xs : List Int} (h : New G G' A c (xs.map I64) 1 xs.length) (hZ : ∀ a, Z = some a → ∃ e, G a.block = some e) : IntS (Gh.wo G' Z) A c xs := by
  have hi := h.ints
  rcases h with ⟨_, _, h0, _, _⟩ | ⟨x, r, rfl, hx, rfl, _⟩
  · exact ⟨hi.cap, fun i hlt => by omega⟩
  · have hnz : ∀ a, Z = some a → a.block ≠ x := fun a ha e' => by
      obtain ⟨e2, h2⟩ := hZ a ha
      rw [e', hx] at h2; cases h2
    refine ⟨hi.cap, fun i hlt => ?_⟩
    have := hi.rd i hlt
    simp only [pa_mk, rd] at this ⊢
    rw [wo_ne hnz]; exact this
theorem Bld.blk {H G : GH} {B : Option Addr} {cb k C : Nat} {f : Int → Int → Int} (h : Bld H G B cb k C f) : ∀ a, B = some a → ∃ e, G a.block = some e := fun a ha => by
  obtain ⟨_, _, A, c, h3, _⟩ := h
  rcases h3 with ⟨h0, _⟩ | ⟨x, r, h0, h1, _⟩
  · rw [h0] at ha; cases ha
  · rw [h0] at ha; cases ha; exact ⟨_, h1⟩
theorem rowsC_push (A : Nat → Option Addr) (c : Nat → Nat) (k C : Nat) (A' : Option Addr) (c' : Nat) : rowsC A c k C ++ [.slice A' C c'] = rowsC (fun i => if i = k then A' else A i) (fun i => if i = k then c' else c i) (k + 1) C := by
  unfold rowsC
  rw [List.range_succ, List.map_append, List.map_singleton]
  simp only [if_true]
  congr 1
  refine List.map_congr_left fun i hi => ?_
  have := List.mem_range.1 hi
  rw [if_neg (by omega), if_neg (by omega)]
theorem Bld.push {H G : GH} {B Bn A' : Option Addr} {cb k C c' dn : Nat} {f : Int → Int → Int} (h : Bld H G B cb k C f) (hrow : IntS (wo G B) A' c' (rowL C (f k))) (hn : Cells G Bn [.slice A' C c']) (hk : k < 2 ^ 20) {K : Value → GH → Prop}
    (hK : ∀ G' B' cb', Bld H G' B' cb' (k + 1) C f → K (.slice B' (k + 1) cb') G') : gAp 1 24 [.slice none 0 0] (.slice B k cb) (.slice Bn 1 dn) G K := by
  obtain ⟨h1, h2, A, c, h3, h4⟩ := h
  refine ap_own h3 hn rfl (by intro v hv; simp at hv; subst hv; rfl) rfl (by omega) (by omega) (by omega) fun G' B' cb' hO keep => hK G' B' cb' ?_
  obtain ⟨s, o⟩ := keep _ (Sub.wo _ _) (Off.wo _ _)
  have s0 : Sub H (wo G B) := fun x e hx => by
    rw [wo_ne fun a ha e' => by have := h2 a ha; rw [e', hx] at this; cases this]
    exact h1 _ _ hx
  have s1 : Sub (wo G B) (wo G' B') := fun x e hx => by
    rw [wo_ne fun a ha e' => by have := o a ha; rw [e', hx] at this; cases this]
    exact s _ _ hx
  refine ⟨s0.trans s, o.mono s0, _, _, hO.cast (rowsC_push A c k C A' c') rfl, fun i hi => ?_⟩
  by_cases e : i = k
  · subst e; simp only [if_true]; exact hrow.sub s1
  · simp only [if_neg e]; exact (h4 i (by omega)).sub s1
theorem Bld.rows {H G : GH} {B : Option Addr} {cb k C : Nat} {f : Int → Int → Int} (h : Bld H G B cb k C f) : RowsS G B k C f := by
  obtain ⟨_, _, A, c, h3, h4⟩ := h
  refine ⟨A, c, fun i hi => ?_, fun i hi => (h4 i hi).sub (Sub.wo _ _)⟩
  rcases h3 with ⟨_, _, h0, _⟩ | ⟨b, r, rfl, h1, _⟩
  · omega
  · rw [pa_mk, Nat.zero_add]
    simp only [rd, h1, Option.bind_some]
    rw [List.getElem?_append_left (by rw [rowsC_len]; exact hi), rowsC_get hi]
theorem Bld.rw' {H G : GH} {B : Option Addr} {cb k C : Nat} {f : Int → Int → Int} (h : Bld H G B cb k C f) (hk : 0 < k) : ∃ b A c rest, B = some ⟨b, 0, none⟩ ∧ k ≤ cb ∧ Rw H G b A c k C f rest none := by
  obtain ⟨h1, h2, A, c, h3, h4⟩ := h
  rcases h3 with ⟨_, _, h0, _⟩ | ⟨b, r, rfl, h5, _, _, h6⟩
  · omega
  · refine ⟨b, A, c, r, rfl, h6, h1, h2 _ rfl, h5, fun i hi => (h4 i hi).sub fun x e hx => ?_⟩
    unfold wo at hx
    split at hx
    · cases hx
    · rename_i hne
      have : x ≠ b := fun e' => hne (by rw [e']; rfl)
      rw [del_ne _ this]
      unfold wo; rw [if_neg (by simp)]; exact hx
theorem impl_elim0_ok {G : GH} {B : Option Addr} {cb : Nat} {p : Int} {K : Value → GH → Prop} (hk : K (.tuple [.slice none 0 0, .int .i64 1].toArray) G) : GC Try.prog 231 [.slice B 0 cb, .int .i64 0, .int .i64 p] G K := by
  refine c_impl_eliminate_i (by simp) ?_
  simp (maxSteps := 300000) (disch := omega) only [gs, gs2, gs3, ↓reduceIte, Nat.reduceEqDiff, Nat.mul_one, Nat.add_zero, Nat.zero_add, Nat.zero_mul, Int.toNat_natCast, Int.reduceToNat, Nat.reduceMul, Nat.reduceAdd, decide_true, decide_false, Bool.not_true, Bool.not_false, true_and, and_true, List.map_cons, List.map_nil, List.nil_append, List.cons_append, List.append_nil, Option.map_some, Option.bind_some, List.getElem?_cons_zero, List.getElem?_cons_succ, Bool.false_eq_true, not_true_eq_false, not_false_eq_true, List.contains_cons, List.contains_nil, Nat.reduceBEq, Bool.true_or, Bool.false_or, Bool.or_true, List.set_cons_zero, List.set_cons_succ, List.length_cons, List.length_nil, isLd, Bool.true_and, Bool.false_and, Bool.and_true, Bool.and_false]
  refine gLoop_intro (fun m T G' => T 8 = .slice none 0 0 ∧ T 9 = .int .i64 1 ∧ T 16 = .int .i64 0 ∧ T 17 = .int .i64 0 ∧ G = G') 0 ⟨by simp (maxSteps := 300000) (disch := omega) only [gs, gs2, gs3, ↓reduceIte, Nat.reduceEqDiff, Nat.mul_one, Nat.add_zero, Nat.zero_add, Nat.zero_mul, Int.toNat_natCast, Int.reduceToNat, Nat.reduceMul, Nat.reduceAdd, decide_true, decide_false, Bool.not_true, Bool.not_false, true_and, and_true, List.map_cons, List.map_nil, List.nil_append, List.cons_append, List.append_nil, Option.map_some, Option.bind_some, List.getElem?_cons_zero, List.getElem?_cons_succ, Bool.false_eq_true, not_true_eq_false, not_false_eq_true, List.contains_cons, List.contains_nil, Nat.reduceBEq, Bool.true_or, Bool.false_or, Bool.or_true, List.set_cons_zero, List.set_cons_succ, List.length_cons, List.length_nil, isLd, Bool.true_and, Bool.false_and, Bool.and_true, Bool.and_false], by simp (maxSteps := 300000) (disch := omega) only [gs, gs2, gs3, ↓reduceIte, Nat.reduceEqDiff, Nat.mul_one, Nat.add_zero, Nat.zero_add, Nat.zero_mul, Int.toNat_natCast, Int.reduceToNat, Nat.reduceMul, Nat.reduceAdd, decide_true, decide_false, Bool.not_true, Bool.not_false, true_and, and_true, List.map_cons, List.map_nil, List.nil_append, List.cons_append, List.append_nil, Option.map_some, Option.bind_some, List.getElem?_cons_zero, List.getElem?_cons_succ, Bool.false_eq_true, not_true_eq_false, not_false_eq_true, List.contains_cons, List.contains_nil, Nat.reduceBEq, Bool.true_or, Bool.false_or, Bool.or_true, List.set_cons_zero, List.set_cons_succ, List.length_cons, List.length_nil, isLd, Bool.true_and, Bool.false_and, Bool.and_true, Bool.and_false], by simp (maxSteps := 300000) (disch := omega) only [gs, gs2, gs3, ↓reduceIte, Nat.reduceEqDiff, Nat.mul_one, Nat.add_zero, Nat.zero_add, Nat.zero_mul, Int.toNat_natCast, Int.reduceToNat, Nat.reduceMul, Nat.reduceAdd, decide_true, decide_false, Bool.not_true, Bool.not_false, true_and, and_true, List.map_cons, List.map_nil, List.nil_append, List.cons_append, List.append_nil, Option.map_some, Option.bind_some, List.getElem?_cons_zero, List.getElem?_cons_succ, Bool.false_eq_true, not_true_eq_false, not_false_eq_true, List.contains_cons, List.contains_nil, Nat.reduceBEq, Bool.true_or, Bool.false_or, Bool.or_true, List.set_cons_zero, List.set_cons_succ, List.length_cons, List.length_nil, isLd, Bool.true_and, Bool.false_and, Bool.and_true, Bool.and_false], by simp (maxSteps := 300000) (disch := omega) only [gs, gs2, gs3, ↓reduceIte, Nat.reduceEqDiff, Nat.mul_one, Nat.add_zero, Nat.zero_add, Nat.zero_mul, Int.toNat_natCast, Int.reduceToNat, Nat.reduceMul, Nat.reduceAdd, decide_true, decide_false, Bool.not_true, Bool.not_false, true_and, and_true, List.map_cons, List.map_nil, List.nil_append, List.cons_append, List.append_nil, Option.map_some, Option.bind_some, List.getElem?_cons_zero, List.getElem?_cons_succ, Bool.false_eq_true, not_true_eq_false, not_false_eq_true, List.contains_cons, List.contains_nil, Nat.reduceBEq, Bool.true_or, Bool.false_or, Bool.or_true, List.set_cons_zero, List.set_cons_succ, List.length_cons, List.length_nil, isLd, Bool.true_and, Bool.false_and, Bool.and_true, Bool.and_false], rfl⟩ ?_
  rintro m T G' ⟨e8, e9, e16, e17, rfl⟩
  simp (maxSteps := 300000) (disch := omega) only [gs, gs2, gs3, ↓reduceIte, Nat.reduceEqDiff, Nat.mul_one, Nat.add_zero, Nat.zero_add, Nat.zero_mul, Int.toNat_natCast, Int.reduceToNat, Nat.reduceMul, Nat.reduceAdd, decide_true, decide_false, Bool.not_true, Bool.not_false, true_and, and_true, List.map_cons, List.map_nil, List.nil_append, List.cons_append, List.append_nil, Option.map_some, Option.bind_some, List.getElem?_cons_zero, List.getElem?_cons_succ, Bool.false_eq_true, not_true_eq_false, not_false_eq_true, List.contains_cons, List.contains_nil, Nat.reduceBEq, Bool.true_or, Bool.false_or, Bool.or_true, List.set_cons_zero, List.set_cons_succ, List.length_cons, List.length_nil, isLd, Bool.true_and, Bool.false_and, Bool.and_true, Bool.and_false, e8, e9, e16, e17, show ((0 : Int) < 0) = False from eq_false (by omega)]
  exact hk
theorem impl_modularDet_ok {G : GH} {B : Option Addr} {cb R : Nat} {f : Int → Int → Int} {p : Int} (h : RowsS G B R R f) (hcb : R ≤ cb) (hR : R < 2 ^ 10) (hp : 2 < p ∧ p ≤ 2 ^ 30) (hI : HasInv p) {K : Value → GH → Prop}
    (hk : K (.int .i64 (dt R f % p)) G) : GC Try.prog 235 [.slice B R cb, .int .i64 p] G K := by
  refine GC_drop (c_impl_modularDet_i (by simp) ?_)
  simp (maxSteps := 300000) (disch := omega) only [gs, gs2, gs3, ↓reduceIte, Nat.reduceEqDiff, Nat.mul_one, Nat.add_zero, Nat.zero_add, Nat.zero_mul, Int.toNat_natCast, Int.reduceToNat, Nat.reduceMul, Nat.reduceAdd, decide_true, decide_false, Bool.not_true, Bool.not_false, true_and, and_true, List.map_cons, List.map_nil, List.nil_append, List.cons_append, List.append_nil, Option.map_some, Option.bind_some, List.getElem?_cons_zero, List.getElem?_cons_succ, Bool.false_eq_true, not_true_eq_false, not_false_eq_true, List.contains_cons, List.contains_nil, Nat.reduceBEq, Bool.true_or, Bool.false_or, Bool.or_true, List.set_cons_zero, List.set_cons_succ, List.length_cons, List.length_nil, isLd, Bool.true_and, Bool.false_and, Bool.and_true, Bool.and_false]
  refine gLoop_intro (fun m T G' => ∃ (i : Nat) (B5 : Option Addr) (c5 : Nat), T 0 = .slice B R cb ∧ T 1 = .int .i64 p ∧ T 5 = .slice B5 i c5 ∧ T 13 = .slice B R cb ∧ T 14 = .int .i64 R ∧ T 15 = .int .i64 i ∧ m + i = R ∧ i ≤ R ∧ Bld G G' B5 c5 i R (fun a b => f a b % p))
    R ⟨0, none, 0, by simp (maxSteps := 300000) (disch := omega) only [gs, gs2, gs3, ↓reduceIte, Nat.reduceEqDiff, Nat.mul_one, Nat.add_zero, Nat.zero_add, Nat.zero_mul, Int.toNat_natCast, Int.reduceToNat, Nat.reduceMul, Nat.reduceAdd, decide_true, decide_false, Bool.not_true, Bool.not_false, true_and, and_true, List.map_cons, List.map_nil, List.nil_append, List.cons_append, List.append_nil, Option.map_some, Option.bind_some, List.getElem?_cons_zero, List.getElem?_cons_succ, Bool.false_eq_true, not_true_eq_false, not_false_eq_true, List.contains_cons, List.contains_nil, Nat.reduceBEq, Bool.true_or, Bool.false_or, Bool.or_true, List.set_cons_zero, List.set_cons_succ, List.length_cons, List.length_nil, isLd, Bool.true_and, Bool.false_and, Bool.and_true, Bool.and_false], by simp (maxSteps := 300000) (disch := omega) only [gs, gs2, gs3, ↓reduceIte, Nat.reduceEqDiff, Nat.mul_one, Nat.add_zero, Nat.zero_add, Nat.zero_mul, Int.toNat_natCast, Int.reduceToNat, Nat.reduceMul, Nat.reduceAdd, decide_true, decide_false, Bool.not_true, Bool.not_false, true_and, and_true, List.map_cons, List.map_nil, List.nil_append, List.cons_append, List.append_nil, Option.map_some, Option.bind_some, List.getElem?_cons_zero, List.getElem?_cons_succ, Bool.false_eq_true, not_true_eq_false, not_false_eq_true, List.contains_cons, List.contains_nil, Nat.reduceBEq, Bool.true_or, Bool.false_or, Bool.or_true, List.set_cons_zero, List.set_cons_succ, List.length_cons, List.length_nil, isLd, Bool.true_and, Bool.false_and, Bool.and_true, Bool.and_false], by simp (maxSteps := 300000) (disch := omega) only [gs, gs2, gs3, ↓reduceIte, Nat.reduceEqDiff, Nat.mul_one, Nat.add_zero, Nat.zero_add, Nat.zero_mul, Int.toNat_natCast, Int.reduceToNat, Nat.reduceMul, Nat.reduceAdd, decide_true, decide_false, Bool.not_true, Bool.not_false, true_and, and_true, List.map_cons, List.map_nil, List.nil_append, List.cons_append, List.append_nil, Option.map_some, Option.bind_some, List.getElem?_cons_zero, List.getElem?_cons_succ, Bool.false_eq_true, not_true_eq_false, not_false_eq_true, List.contains_cons, List.contains_nil, Nat.reduceBEq, Bool.true_or, Bool.false_or, Bool.or_true, List.set_cons_zero, List.set_cons_succ, List.length_cons, List.length_nil, isLd, Bool.true_and, Bool.false_and, Bool.and_true, Bool.and_false], by simp (maxSteps := 300000) (disch := omega) only [gs, gs2, gs3, ↓reduceIte, Nat.reduceEqDiff, Nat.mul_one, Nat.add_zero, Nat.zero_add, Nat.zero_mul, Int.toNat_natCast, Int.reduceToNat, Nat.reduceMul, Nat.reduceAdd, decide_true, decide_false, Bool.not_true, Bool.not_false, true_and, and_true, List.map_cons, List.map_nil, List.nil_append, List.cons_append, List.append_nil, Option.map_some, Option.bind_some, List.getElem?_cons_zero, List.getElem?_cons_succ, Bool.false_eq_true, not_true_eq_false, not_false_eq_true, List.contains_cons, List.contains_nil, Nat.reduceBEq, Bool.true_or, Bool.false_or, Bool.or_true, List.set_cons_zero, List.set_cons_succ, List.length_cons, List.length_nil, isLd, Bool.true_and, Bool.false_and, Bool.and_true, Bool.and_false], by simp (maxSteps := 300000) (disch := omega) only [gs, gs2, gs3, ↓reduceIte, Nat.reduceEqDiff, Nat.mul_one, Nat.add_zero, Nat.zero_add, Nat.zero_mul, Int.toNat_natCast, Int.reduceToNat, Nat.reduceMul, Nat.reduceAdd, decide_true, decide_false, Bool.not_true, Bool.not_false, true_and, and_true, List.map_cons, List.map_nil, List.nil_append, List.cons_append, List.append_nil, Option.map_some, Option.bind_some, List.getElem?_cons_zero, List.getElem?_cons_succ, Bool.false_eq_true, not_true_eq_false, not_false_eq_true, List.contains_cons, List.contains_nil, Nat.reduceBEq, Bool.true_or, Bool.false_or, Bool.or_true, List.set_cons_zero, List.set_cons_succ, List.length_cons, List.length_nil, isLd, Bool.true_and, Bool.false_and, Bool.and_true, Bool.and_false], by simp (maxSteps := 300000) (disch := omega) only [gs, gs2, gs3, ↓reduceIte, Nat.reduceEqDiff, Nat.mul_one, Nat.add_zero, Nat.zero_add, Nat.zero_mul, Int.toNat_natCast, Int.reduceToNat, Nat.reduceMul, Nat.reduceAdd, decide_true, decide_false, Bool.not_true, Bool.not_false, true_and, and_true, List.map_cons, List.map_nil, List.nil_append, List.cons_append, List.append_nil, Option.map_some, Option.bind_some, List.getElem?_cons_zero, List.getElem?_cons_succ, Bool.false_eq_true, not_true_eq_false, not_false_eq_true, List.contains_cons, List.contains_nil, Nat.reduceBEq, Bool.true_or, Bool.false_or, Bool.or_true, List.set_cons_zero, List.set_cons_succ, List.length_cons, List.length_nil, isLd, Bool.true_and, Bool.false_and, Bool.and_true, Bool.and_false] <;> rfl, by omega, by omega, Bld.nil _ _ _⟩ ?_
  rintro m T G' ⟨i, B5, c5, e0, e1, e5, e13, e14, e15, hm, hi, hB⟩
  simp (maxSteps := 300000) (disch := omega) only [gs, gs2, gs3, ↓reduceIte, Nat.reduceEqDiff, Nat.mul_one, Nat.add_zero, Nat.zero_add, Nat.zero_mul, Int.toNat_natCast, Int.reduceToNat, Nat.reduceMul, Nat.reduceAdd, decide_true, decide_false, Bool.not_true, Bool.not_false, true_and, and_true, List.map_cons, List.map_nil, List.nil_append, List.cons_append, List.append_nil, Option.map_some, Option.bind_some, List.getElem?_cons_zero, List.getElem?_cons_succ, Bool.false_eq_true, not_true_eq_false, not_false_eq_true, List.contains_cons, List.contains_nil, Nat.reduceBEq, Bool.true_or, Bool.false_or, Bool.or_true, List.set_cons_zero, List.set_cons_succ, List.length_cons, List.length_nil, isLd, Bool.true_and, Bool.false_and, Bool.and_true, Bool.and_false, e0, e1, e5, e13, e14, e15]
  by_cases hii : (i : Int) < R
  · obtain ⟨A, c, hr1, hr2⟩ := h.sub hB.1
    have hri := hr1 i (by omega)
    have hrow := hr2 i (by omega)
    have hsnB : 0 < sn B := by have := rd_some hri; rwa [sn_pa] at this
    simp (maxSteps := 300000) (disch := omega) only [gs, gs2, gs3, ↓reduceIte, Nat.reduceEqDiff, Nat.mul_one, Nat.add_zero, Nat.zero_add, Nat.zero_mul, Int.toNat_natCast, Int.reduceToNat, Nat.reduceMul, Nat.reduceAdd, decide_true, decide_false, Bool.not_true, Bool.not_false, true_and, and_true, List.map_cons, List.map_nil, List.nil_append, List.cons_append, List.append_nil, Option.map_some, Option.bind_some, List.getElem?_cons_zero, List.getElem?_cons_succ, Bool.false_eq_true, not_true_eq_false, not_false_eq_true, List.contains_cons, List.contains_nil, Nat.reduceBEq, Bool.true_or, Bool.false_or, Bool.or_true, List.set_cons_zero, List.set_cons_succ, List.length_cons, List.length_nil, isLd, Bool.true_and, Bool.false_and, Bool.and_true, Bool.and_false, e0, e1, e5, e13, e14, e15, hii, hri]
    refine gLoop_intro (fun m' T' G2 => ∃ (j : Nat) (A8 : Option Addr) (c8 : Nat), T' 0 = .slice B R cb ∧ T' 1 = .int .i64 p ∧ T' 5 = .slice B5 i c5 ∧ T' 8 = .slice A8 j c8 ∧ T' 13 = .slice B R cb ∧ T' 14 = .int .i64 R ∧ T' 15 = .int .i64 i ∧ T' 19 = .slice (A i) R (c i) ∧ T' 20 = .int .i64 R ∧ T' 21 = .int .i64 j ∧ m' + j = R ∧ j ≤ R ∧ New G' G2 A8 c8 ((rowL j fun b => f i b % p).map I64) 1 j)
      R ⟨0, none, 0, by simp (maxSteps := 300000) (disch := omega) only [gs, gs2, gs3, ↓reduceIte, Nat.reduceEqDiff, Nat.mul_one, Nat.add_zero, Nat.zero_add, Nat.zero_mul, Int.toNat_natCast, Int.reduceToNat, Nat.reduceMul, Nat.reduceAdd, decide_true, decide_false, Bool.not_true, Bool.not_false, true_and, and_true, List.map_cons, List.map_nil, List.nil_append, List.cons_append, List.append_nil, Option.map_some, Option.bind_some, List.getElem?_cons_zero, List.getElem?_cons_succ, Bool.false_eq_true, not_true_eq_false, not_false_eq_true, List.contains_cons, List.contains_nil, Nat.reduceBEq, Bool.true_or, Bool.false_or, Bool.or_true, List.set_cons_zero, List.set_cons_succ, List.length_cons, List.length_nil, isLd, Bool.true_and, Bool.false_and, Bool.and_true, Bool.and_false, e0], by simp (maxSteps := 300000) (disch := omega) only [gs, gs2, gs3, ↓reduceIte, Nat.reduceEqDiff, Nat.mul_one, Nat.add_zero, Nat.zero_add, Nat.zero_mul, Int.toNat_natCast, Int.reduceToNat, Nat.reduceMul, Nat.reduceAdd, decide_true, decide_false, Bool.not_true, Bool.not_false, true_and, and_true, List.map_cons, List.map_nil, List.nil_append, List.cons_append, List.append_nil, Option.map_some, Option.bind_some, List.getElem?_cons_zero, List.getElem?_cons_succ, Bool.false_eq_true, not_true_eq_false, not_false_eq_true, List.contains_cons, List.contains_nil, Nat.reduceBEq, Bool.true_or, Bool.false_or, Bool.or_true, List.set_cons_zero, List.set_cons_succ, List.length_cons, List.length_nil, isLd, Bool.true_and, Bool.false_and, Bool.and_true, Bool.and_false, e1], by simp (maxSteps := 300000) (disch := omega) only [gs, gs2, gs3, ↓reduceIte, Nat.reduceEqDiff, Nat.mul_one, Nat.add_zero, Nat.zero_add, Nat.zero_mul, Int.toNat_natCast, Int.reduceToNat, Nat.reduceMul, Nat.reduceAdd, decide_true, decide_false, Bool.not_true, Bool.not_false, true_and, and_true, List.map_cons, List.map_nil, List.nil_append, List.cons_append, List.append_nil, Option.map_some, Option.bind_some, List.getElem?_cons_zero, List.getElem?_cons_succ, Bool.false_eq_true, not_true_eq_false, not_false_eq_true, List.contains_cons, List.contains_nil, Nat.reduceBEq, Bool.true_or, Bool.false_or, Bool.or_true, List.set_cons_zero, List.set_cons_succ, List.length_cons, List.length_nil, isLd, Bool.true_and, Bool.false_and, Bool.and_true, Bool.and_false, e5], by simp (maxSteps := 300000) (disch := omega) only [gs, gs2, gs3, ↓reduceIte, Nat.reduceEqDiff, Nat.mul_one, Nat.add_zero, Nat.zero_add, Nat.zero_mul, Int.toNat_natCast, Int.reduceToNat, Nat.reduceMul, Nat.reduceAdd, decide_true, decide_false, Bool.not_true, Bool.not_false, true_and, and_true, List.map_cons, List.map_nil, List.nil_append, List.cons_append, List.append_nil, Option.map_some, Option.bind_some, List.getElem?_cons_zero, List.getElem?_cons_succ, Bool.false_eq_true, not_true_eq_false, not_false_eq_true, List.contains_cons, List.contains_nil, Nat.reduceBEq, Bool.true_or, Bool.false_or, Bool.or_true, List.set_cons_zero, List.set_cons_succ, List.length_cons, List.length_nil, isLd, Bool.true_and, Bool.false_and, Bool.and_true, Bool.and_false], by simp (maxSteps := 300000) (disch := omega) only [gs, gs2, gs3, ↓reduceIte, Nat.reduceEqDiff, Nat.mul_one, Nat.add_zero, Nat.zero_add, Nat.zero_mul, Int.toNat_natCast, Int.reduceToNat, Nat.reduceMul, Nat.reduceAdd, decide_true, decide_false, Bool.not_true, Bool.not_false, true_and, and_true, List.map_cons, List.map_nil, List.nil_append, List.cons_append, List.append_nil, Option.map_some, Option.bind_some, List.getElem?_cons_zero, List.getElem?_cons_succ, Bool.false_eq_true, not_true_eq_false, not_false_eq_true, List.contains_cons, List.contains_nil, Nat.reduceBEq, Bool.true_or, Bool.false_or, Bool.or_true, List.set_cons_zero, List.set_cons_succ, List.length_cons, List.length_nil, isLd, Bool.true_and, Bool.false_and, Bool.and_true, Bool.and_false, e13], by simp (maxSteps := 300000) (disch := omega) only [gs, gs2, gs3, ↓reduceIte, Nat.reduceEqDiff, Nat.mul_one, Nat.add_zero, Nat.zero_add, Nat.zero_mul, Int.toNat_natCast, Int.reduceToNat, Nat.reduceMul, Nat.reduceAdd, decide_true, decide_false, Bool.not_true, Bool.not_false, true_and, and_true, List.map_cons, List.map_nil, List.nil_append, List.cons_append, List.append_nil, Option.map_some, Option.bind_some, List.getElem?_cons_zero, List.getElem?_cons_succ, Bool.false_eq_true, not_true_eq_false, not_false_eq_true, List.contains_cons, List.contains_nil, Nat.reduceBEq, Bool.true_or, Bool.false_or, Bool.or_true, List.set_cons_zero, List.set_cons_succ, List.length_cons, List.length_nil, isLd, Bool.true_and, Bool.false_and, Bool.and_true, Bool.and_false, e14], by simp (maxSteps := 300000) (disch := omega) only [gs, gs2, gs3, ↓reduceIte, Nat.reduceEqDiff, Nat.mul_one, Nat.add_zero, Nat.zero_add, Nat.zero_mul, Int.toNat_natCast, Int.reduceToNat, Nat.reduceMul, Nat.reduceAdd, decide_true, decide_false, Bool.not_true, Bool.not_false, true_and, and_true, List.map_cons, List.map_nil, List.nil_append, List.cons_append, List.append_nil, Option.map_some, Option.bind_some, List.getElem?_cons_zero, List.getElem?_cons_succ, Bool.false_eq_true, not_true_eq_false, not_false_eq_true, List.contains_cons, List.contains_nil, Nat.reduceBEq, Bool.true_or, Bool.false_or, Bool.or_true, List.set_cons_zero, List.set_cons_succ, List.length_cons, List.length_nil, isLd, Bool.true_and, Bool.false_and, Bool.and_true, Bool.and_false, e15], by simp (maxSteps := 300000) (disch := omega) only [gs, gs2, gs3, ↓reduceIte, Nat.reduceEqDiff, Nat.mul_one, Nat.add_zero, Nat.zero_add, Nat.zero_mul, Int.toNat_natCast, Int.reduceToNat, Nat.reduceMul, Nat.reduceAdd, decide_true, decide_false, Bool.not_true, Bool.not_false, true_and, and_true, List.map_cons, List.map_nil, List.nil_append, List.cons_append, List.append_nil, Option.map_some, Option.bind_some, List.getElem?_cons_zero, List.getElem?_cons_succ, Bool.false_eq_true, not_true_eq_false, not_false_eq_true, List.contains_cons, List.contains_nil, Nat.reduceBEq, Bool.true_or, Bool.false_or, Bool.or_true, List.set_cons_zero, List.set_cons_succ, List.length_cons, List.length_nil, isLd, Bool.true_and, Bool.false_and, Bool.and_true, Bool.and_false], by simp (maxSteps := 300000) (disch := omega) only [gs, gs2, gs3, ↓reduceIte, Nat.reduceEqDiff, Nat.mul_one, Nat.add_zero, Nat.zero_add, Nat.zero_mul, Int.toNat_natCast, Int.reduceToNat, Nat.reduceMul, Nat.reduceAdd, decide_true, decide_false, Bool.not_true, Bool.not_false, true_and, and_true, List.map_cons, List.map_nil, List.nil_append, List.cons_append, List.append_nil, Option.map_some, Option.bind_some, List.getElem?_cons_zero, List.getElem?_cons_succ, Bool.false_eq_true, not_true_eq_false, not_false_eq_true, List.contains_cons, List.contains_nil, Nat.reduceBEq, Bool.true_or, Bool.false_or, Bool.or_true, List.set_cons_zero, List.set_cons_succ, List.length_cons, List.length_nil, isLd, Bool.true_and, Bool.false_and, Bool.and_true, Bool.and_false], by simp (maxSteps := 300000) (disch := omega) only [gs, gs2, gs3, ↓reduceIte, Nat.reduceEqDiff, Nat.mul_one, Nat.add_zero, Nat.zero_add, Nat.zero_mul, Int.toNat_natCast, Int.reduceToNat, Nat.reduceMul, Nat.reduceAdd, decide_true, decide_false, Bool.not_true, Bool.not_false, true_and, and_true, List.map_cons, List.map_nil, List.nil_append, List.cons_append, List.append_nil, Option.map_some, Option.bind_some, List.getElem?_cons_zero, List.getElem?_cons_succ, Bool.false_eq_true, not_true_eq_false, not_false_eq_true, List.contains_cons, List.contains_nil, Nat.reduceBEq, Bool.true_or, Bool.false_or, Bool.or_true, List.set_cons_zero, List.set_cons_succ, List.length_cons, List.length_nil, isLd, Bool.true_and, Bool.false_and, Bool.and_true, Bool.and_false] <;> rfl, by omega, by omega, New.nil _ _⟩ ?_
    clear e0 e1 e5 e13 e14 e15
    rintro m' T' G2 ⟨j, A8, c8, e0, e1, e5, e8, e13, e14, e15, e19, e20, e21, hm', hj, hN⟩
    simp (maxSteps := 300000) (disch := omega) only [gs, gs2, gs3, ↓reduceIte, Nat.reduceEqDiff, Nat.mul_one, Nat.add_zero, Nat.zero_add, Nat.zero_mul, Int.toNat_natCast, Int.reduceToNat, Nat.reduceMul, Nat.reduceAdd, decide_true, decide_false, Bool.not_true, Bool.not_false, true_and, and_true, List.map_cons, List.map_nil, List.nil_append, List.cons_append, List.append_nil, Option.map_some, Option.bind_some, List.getElem?_cons_zero, List.getElem?_cons_succ, Bool.false_eq_true, not_true_eq_false, not_false_eq_true, List.contains_cons, List.contains_nil, Nat.reduceBEq, Bool.true_or, Bool.false_or, Bool.or_true, List.set_cons_zero, List.set_cons_succ, List.length_cons, List.length_nil, isLd, Bool.true_and, Bool.false_and, Bool.and_true, Bool.and_false, e0, e1, e5, e8, e13, e14, e15, e19, e20, e21]
    by_cases hjj : (j : Int) < R
    · have hrj := (hrow.sub hN.sub).rd j (by rw [rowL_len]; omega)
      rw [rowL_get _ (by omega)] at hrj
      have hsA := hrow.sn (by rw [rowL_len]; omega)
      simp (maxSteps := 300000) (disch := omega) only [gs, gs2, gs3, ↓reduceIte, Nat.reduceEqDiff, Nat.mul_one, Nat.add_zero, Nat.zero_add, Nat.zero_mul, Int.toNat_natCast, Int.reduceToNat, Nat.reduceMul, Nat.reduceAdd, decide_true, decide_false, Bool.not_true, Bool.not_false, true_and, and_true, List.map_cons, List.map_nil, List.nil_append, List.cons_append, List.append_nil, Option.map_some, Option.bind_some, List.getElem?_cons_zero, List.getElem?_cons_succ, Bool.false_eq_true, not_true_eq_false, not_false_eq_true, List.contains_cons, List.contains_nil, Nat.reduceBEq, Bool.true_or, Bool.false_or, Bool.or_true, List.set_cons_zero, List.set_cons_succ, List.length_cons, List.length_nil, isLd, Bool.true_and, Bool.false_and, Bool.and_true, Bool.and_false, e0, e1, e5, e8, e13, e14, e15, e19, e20, e21, hjj, hrj]
      refine impl_reduce_ok ⟨by omega, by omega⟩ ?_
      simp (maxSteps := 300000) (disch := omega) only [gs, gs2, gs3, ↓reduceIte, Nat.reduceEqDiff, Nat.mul_one, Nat.add_zero, Nat.zero_add, Nat.zero_mul, Int.toNat_natCast, Int.reduceToNat, Nat.reduceMul, Nat.reduceAdd, decide_true, decide_false, Bool.not_true, Bool.not_false, true_and, and_true, List.map_cons, List.map_nil, List.nil_append, List.cons_append, List.append_nil, Option.map_some, Option.bind_some, List.getElem?_cons_zero, List.getElem?_cons_succ, Bool.false_eq_true, not_true_eq_false, not_false_eq_true, List.contains_cons, List.contains_nil, Nat.reduceBEq, Bool.true_or, Bool.false_or, Bool.or_true, List.set_cons_zero, List.set_cons_succ, List.length_cons, List.length_nil, isLd, Bool.true_and, Bool.false_and, Bool.and_true, Bool.and_false, e0, e1, e5, e8, e13, e14, e15, e19, e20, e21, gBs]
      refine ⟨by intro v hv; simp at hv; subst hv; rfl, fun b hb => ?_⟩
      refine ap_new hN (Sub.put hb _) (cells_one [.int .i64 (f i j % p)] true) (by rfl) (by intro v hv; simp at hv; subst hv; rfl) rfl (by omega) (by omega) (by omega) fun G3 A' c' hN' => ?_
      simp (maxSteps := 300000) (disch := omega) only [gs, gs2, gs3, ↓reduceIte, Nat.reduceEqDiff, Nat.mul_one, Nat.add_zero, Nat.zero_add, Nat.zero_mul, Int.toNat_natCast, Int.reduceToNat, Nat.reduceMul, Nat.reduceAdd, decide_true, decide_false, Bool.not_true, Bool.not_false, true_and, and_true, List.map_cons, List.map_nil, List.nil_append, List.cons_append, List.append_nil, Option.map_some, Option.bind_some, List.getElem?_cons_zero, List.getElem?_cons_succ, Bool.false_eq_true, not_true_eq_false, not_false_eq_true, List.contains_cons, List.contains_nil, Nat.reduceBEq, Bool.true_or, Bool.false_or, Bool.or_true, List.set_cons_zero, List.set_cons_succ, List.length_cons, List.length_nil, isLd, Bool.true_and, Bool.false_and, Bool.and_true, Bool.and_false, e0, e1, e5, e8, e13, e14, e15, e19, e20, e21]
      exact ⟨m' - 1, by omega, _, Sub.refl _, j + 1, A', c', rfl, rfl, by omega, by omega, hN'.cast (by rw [rowL_succ]; simp [I64]) rfl⟩
    · simp (maxSteps := 300000) (disch := omega) only [gs, gs2, gs3, ↓reduceIte, Nat.reduceEqDiff, Nat.mul_one, Nat.add_zero, Nat.zero_add, Nat.zero_mul, Int.toNat_natCast, Int.reduceToNat, Nat.reduceMul, Nat.reduceAdd, decide_true, decide_false, Bool.not_true, Bool.not_false, true_and, and_true, List.map_cons, List.map_nil, List.nil_append, List.cons_append, List.append_nil, Option.map_some, Option.bind_some, List.getElem?_cons_zero, List.getElem?_cons_succ, Bool.false_eq_true, not_true_eq_false, not_false_eq_true, List.contains_cons, List.contains_nil, Nat.reduceBEq, Bool.true_or, Bool.false_or, Bool.or_true, List.set_cons_zero, List.set_cons_succ, List.length_cons, List.length_nil, isLd, Bool.true_and, Bool.false_and, Bool.and_true, Bool.and_false, e0, e1, e5, e8, e13, e14, e15, e19, e20, e21, hjj, gBs]
      obtain rfl : j = R := by omega
      refine ⟨by intro v hv; simp at hv; subst hv; rfl, fun b hb => ?_⟩
      have hB2 := hB.up hN.sub
      have hrw := New.wo (xs := rowL j fun b => f i b % p) (hN.cast rfl (rowL_len _ _).symm) hB.blk
      refine (hB2.up (Sub.put hb _)).push (hrw.sub (wo_mono (Sub.put hb _) _)) (cells_one [.slice A8 j c8] true) (by omega) fun G4 B4 c4 hB4 => ?_
      simp (maxSteps := 300000) (disch := omega) only [gs, gs2, gs3, ↓reduceIte, Nat.reduceEqDiff, Nat.mul_one, Nat.add_zero, Nat.zero_add, Nat.zero_mul, Int.toNat_natCast, Int.reduceToNat, Nat.reduceMul, Nat.reduceAdd, decide_true, decide_false, Bool.not_true, Bool.not_false, true_and, and_true, List.map_cons, List.map_nil, List.nil_append, List.cons_append, List.append_nil, Option.map_some, Option.bind_some, List.getElem?_cons_zero, List.getElem?_cons_succ, Bool.false_eq_true, not_true_eq_false, not_false_eq_true, List.contains_cons, List.contains_nil, Nat.reduceBEq, Bool.true_or, Bool.false_or, Bool.or_true, List.set_cons_zero, List.set_cons_succ, List.length_cons, List.length_nil, isLd, Bool.true_and, Bool.false_and, Bool.and_true, Bool.and_false, e0, e1, e5, e8, e13, e14, e15, e19, e20, e21]
      exact ⟨m - 1, by omega, _, Sub.refl _, i + 1, B4, c4, rfl, rfl, by omega, by omega, hB4⟩
  · simp (maxSteps := 300000) (disch := omega) only [gs, gs2, gs3, ↓reduceIte, Nat.reduceEqDiff, Nat.mul_one, Nat.add_zero, Nat.zero_add, Nat.zero_mul, Int.toNat_natCast, Int.reduceToNat, Nat.reduceMul, Nat.reduceAdd, decide_true, decide_false, Bool.not_true, Bool.not_false, true_and, and_true, List.map_cons, List.map_nil, List.nil_append, List.cons_append, List.append_nil, Option.map_some, Option.bind_some, List.getElem?_cons_zero, List.getElem?_cons_succ, Bool.false_eq_true, not_true_eq_false, not_false_eq_true, List.contains_cons, List.contains_nil, Nat.reduceBEq, Bool.true_or, Bool.false_or, Bool.or_true, List.set_cons_zero, List.set_cons_succ, List.length_cons, List.length_nil, isLd, Bool.true_and, Bool.false_and, Bool.and_true, Bool.and_false, e0, e1, e5, e13, e14, e15, hii]
    refine c_impl_size_S_int64_i (by simp) ?_
    simp (maxSteps := 300000) (disch := omega) only [gs, gs2, gs3, ↓reduceIte, Nat.reduceEqDiff, Nat.mul_one, Nat.add_zero, Nat.zero_add, Nat.zero_mul, Int.toNat_natCast, Int.reduceToNat, Nat.reduceMul, Nat.reduceAdd, decide_true, decide_false, Bool.not_true, Bool.not_false, true_and, and_true, List.map_cons, List.map_nil, List.nil_append, List.cons_append, List.append_nil, Option.map_some, Option.bind_some, List.getElem?_cons_zero, List.getElem?_cons_succ, Bool.false_eq_true, not_true_eq_false, not_false_eq_true, List.contains_cons, List.contains_nil, Nat.reduceBEq, Bool.true_or, Bool.false_or, Bool.or_true, List.set_cons_zero, List.set_cons_succ, List.length_cons, List.length_nil, isLd, Bool.true_and, Bool.false_and, Bool.and_true, Bool.and_false, e0, e1, e5, e13, e14, e15]
    obtain rfl : i = R := by omega
    have hrg : Rng (fun a b => f a b % p) p := fun a b => ⟨Int.emod_nonneg _ (by omega), Int.emod_lt_of_pos _ (by omega)⟩
    by_cases h0 : i = 0
    · subst h0
      refine impl_elim0_ok ?_
      simp (maxSteps := 300000) (disch := omega) only [gs, gs2, gs3, ↓reduceIte, Nat.reduceEqDiff, Nat.mul_one, Nat.add_zero, Nat.zero_add, Nat.zero_mul, Int.toNat_natCast, Int.reduceToNat, Nat.reduceMul, Nat.reduceAdd, decide_true, decide_false, Bool.not_true, Bool.not_false, true_and, and_true, List.map_cons, List.map_nil, List.nil_append, List.cons_append, List.append_nil, Option.map_some, Option.bind_some, List.getElem?_cons_zero, List.getElem?_cons_succ, Bool.false_eq_true, not_true_eq_false, not_false_eq_true, List.contains_cons, List.contains_nil, Nat.reduceBEq, Bool.true_or, Bool.false_or, Bool.or_true, List.set_cons_zero, List.set_cons_succ, List.length_cons, List.length_nil, isLd, Bool.true_and, Bool.false_and, Bool.and_true, Bool.and_false]
      have e : dt 0 f % p = 1 := by show (1 : Int) % p = 1; exact Int.emod_eq_of_lt (by omega) (by omega)
      rw [e] at hk
      exact ⟨G, hB.1, hk⟩
    · obtain ⟨b, A, c, rest, rfl, hcap, hw⟩ := hB.rw' (by omega)
      refine impl_eliminate_ok hw hcap hR hR hrg ⟨by omega, hp.2⟩ fun G6 A6 c6 Ap6 cq6 hw6 _ => ?_
      simp (maxSteps := 300000) (disch := omega) only [gs, gs2, gs3, ↓reduceIte, Nat.reduceEqDiff, Nat.mul_one, Nat.add_zero, Nat.zero_add, Nat.zero_mul, Int.toNat_natCast, Int.reduceToNat, Nat.reduceMul, Nat.reduceAdd, decide_true, decide_false, Bool.not_true, Bool.not_false, true_and, and_true, List.map_cons, List.map_nil, List.nil_append, List.cons_append, List.append_nil, Option.map_some, Option.bind_some, List.getElem?_cons_zero, List.getElem?_cons_succ, Bool.false_eq_true, not_true_eq_false, not_false_eq_true, List.contains_cons, List.contains_nil, Nat.reduceBEq, Bool.true_or, Bool.false_or, Bool.or_true, List.set_cons_zero, List.set_cons_succ, List.length_cons, List.length_nil, isLd, Bool.true_and, Bool.false_and, Bool.and_true, Bool.and_false]
      have e : (elF p i (fun a b => f a b % p) i).det = dt i f % p := by
        rw [elF_dt' (by omega) hI hrg]
        exact dt_mod i fun a b _ _ => Int.emod_emod_of_dvd _ (Int.dvd_refl p)
      rw [e]
      exact ⟨G, hw6.sub, hk⟩
theorem keep_succ (n : Nat) (om : List Int) : keep (n + 1) om = keep n om ++ if (n : Int) ∈ om then [] else [(n : Int)] := by
  unfold keep
  rw [iota_succ, List.filter_append]
  congr 1
  by_cases h : (n : Int) ∈ om <;> simp [h]
theorem keep_pre {om : List Int} {n : Nat} : ∀ d, ∃ r, keep (n + d) om = keep n om ++ r
  | 0 => ⟨[], by simp⟩
  | d + 1 => by
    obtain ⟨r, hr⟩ := keep_pre (om := om) (n := n) d
    exact ⟨_, by rw [← Nat.add_assoc, keep_succ, hr, List.append_assoc]⟩
/-- the node that is kept next. -/
theorem keep_at {om : List Int} {i n : Nat} (hi : i < n) (ho : ¬ (i : Int) ∈ om) : (keep n om).getD (keep i om).length 0 = i ∧ (keep i om).length < (keep n om).length := by
  obtain ⟨r, hr⟩ := keep_pre (om := om) (n := i + 1) (n - (i + 1))
  rw [show i + 1 + (n - (i + 1)) = n by omega, keep_succ, if_neg ho] at hr
  rw [hr]
  constructor
  · simp [List.getD]
  · simp
theorem keep_len (n : Nat) (om : List Int) : (keep n om).length ≤ n := Nat.le_trans (List.length_filter_le _ _) (by rw [iota_len]; exact Nat.le_refl _)
/-- the kept cells of a row. -/
theorem keep_row {om : List Int} {n : Nat} (g : Int → Int) : (keep n om).map g = rowL (keep n om).length (fun j => g ((keep n om).getD j.toNat 0)) := by
  unfold rowL
  apply List.ext_getElem
  · simp
  · intro k h1 h2
    simp only [List.length_map] at h1
    simp [List.getD, h1]
theorem keep_lt {n : Nat} {om : List Int} (h0 : ∃ v ∈ om, 0 ≤ v ∧ v < n) : (keep n om).length < n := by
  obtain ⟨v, hv, h1, h2⟩ := h0
  have hlt : (keep n om).length < (iota n).length := by
    unfold keep
    exact List.length_filter_lt_length_iff_exists.2 ⟨v, mem_iota.2 ⟨h1, h2⟩, by simp [hv]⟩
  rwa [iota_len] at hlt

end Go.Proofs.Ytmlkgpoakkgjbaa.Gh
