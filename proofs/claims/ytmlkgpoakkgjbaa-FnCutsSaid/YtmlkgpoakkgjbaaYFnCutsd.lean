/- What the functions that the law FnCuts reaches return, and the law; it stands under no condition. -/
import Derived.Test.YtmlkgpoakkgjbaaYFnCutsc
namespace Go.Proofs.Ytmlkgpoakkgjbaa.Gh
open Go Go.RowKit Go.Proofs
set_option linter.unusedVariables false
set_option linter.unusedSimpArgs false
set_option maxHeartbeats 4000000

theorem slices_insertionSort_ok {G H : GH} {b c : Nat} {xs : List Int} {r : List Value} (hS : Sub H G) (hH : H b = none) (hb : G b = some ⟨xs.map I64 ++ r, true⟩) (hl : xs.length ≤ 12) (hnd : ∀ p q, p < xs.length → q < xs.length → xs.getD p 0 = xs.getD q 0 → p = q) {K : Value → GH → Prop}
    (hk : ∀ G' ys, Sub H G' → G' b = some ⟨ys.map I64 ++ r, true⟩ → Same xs ys → Rise ys → K (.tuple [].toArray) G') : GC Try.prog 264 [.slice (some ⟨b, 0, none⟩) xs.length c, .int .i64 0, .int .i64 xs.length] G K := by
  refine c_slices_insertionSortOrdered_int64_i (by simp) ?_
  have rdl : ∀ {G : GH} {ys : List Int}, G b = some ⟨ys.map I64 ++ r, true⟩ → ∀ i, i < ys.length → rd G (some ⟨b, i, none⟩) = some (.int .i64 (ys.getD i 0)) := fun h i hi => by
    simp only [rd, h, Option.bind_some]
    rw [List.getElem?_append_left (by rw [List.length_map]; exact hi)]
    exact ints_get _ i hi
  simp (maxSteps := 300000) (disch := omega) only [gs, gs2, gs3, ↓reduceIte, Nat.reduceEqDiff, Nat.mul_one, Nat.add_zero, Nat.zero_add, Nat.zero_mul, Int.toNat_natCast, Int.reduceToNat, Nat.reduceMul, Nat.reduceAdd, decide_true, decide_false, Bool.not_true, Bool.not_false, true_and, and_true, List.map_cons, List.map_nil, List.nil_append, List.cons_append, List.append_nil, Option.map_some, Option.bind_some, List.getElem?_cons_zero, List.getElem?_cons_succ, Bool.false_eq_true, not_true_eq_false, not_false_eq_true, List.contains_cons, List.contains_nil, Nat.reduceBEq, Bool.true_or, Bool.false_or, Bool.or_true, List.set_cons_zero, List.set_cons_succ, List.length_cons, List.length_nil, isLd, Bool.true_and, Bool.false_and, Bool.and_true, Bool.and_false]
  refine gLoop_intro (fun m T G' => ∃ (i : Nat) (ys : List Int), T 0 = .slice (some ⟨b, 0, none⟩) xs.length c ∧ T 1 = .int .i64 0 ∧ T 2 = .int .i64 xs.length ∧ T 6 = .int .i64 i ∧ m + i = xs.length + 1 ∧ 1 ≤ i ∧ Sub H G' ∧ G' b = some ⟨ys.map I64 ++ r, true⟩ ∧ Same xs ys ∧ ∀ p q, p < q → q < i → q < ys.length → ys.getD p 0 ≤ ys.getD q 0)
    xs.length ⟨1, xs, by simp (maxSteps := 300000) (disch := omega) only [gs, gs2, gs3, ↓reduceIte, Nat.reduceEqDiff, Nat.mul_one, Nat.add_zero, Nat.zero_add, Nat.zero_mul, Int.toNat_natCast, Int.reduceToNat, Nat.reduceMul, Nat.reduceAdd, decide_true, decide_false, Bool.not_true, Bool.not_false, true_and, and_true, List.map_cons, List.map_nil, List.nil_append, List.cons_append, List.append_nil, Option.map_some, Option.bind_some, List.getElem?_cons_zero, List.getElem?_cons_succ, Bool.false_eq_true, not_true_eq_false, not_false_eq_true, List.contains_cons, List.contains_nil, Nat.reduceBEq, Bool.true_or, Bool.false_or, Bool.or_true, List.set_cons_zero, List.set_cons_succ, List.length_cons, List.length_nil, isLd, Bool.true_and, Bool.false_and, Bool.and_true, Bool.and_false], by simp (maxSteps := 300000) (disch := omega) only [gs, gs2, gs3, ↓reduceIte, Nat.reduceEqDiff, Nat.mul_one, Nat.add_zero, Nat.zero_add, Nat.zero_mul, Int.toNat_natCast, Int.reduceToNat, Nat.reduceMul, Nat.reduceAdd, decide_true, decide_false, Bool.not_true, Bool.not_false, true_and, and_true, List.map_cons, List.map_nil, List.nil_append, List.cons_append, List.append_nil, Option.map_some, Option.bind_some, List.getElem?_cons_zero, List.getElem?_cons_succ, Bool.false_eq_true, not_true_eq_false, not_false_eq_true, List.contains_cons, List.contains_nil, Nat.reduceBEq, Bool.true_or, Bool.false_or, Bool.or_true, List.set_cons_zero, List.set_cons_succ, List.length_cons, List.length_nil, isLd, Bool.true_and, Bool.false_and, Bool.and_true, Bool.and_false], by simp (maxSteps := 300000) (disch := omega) only [gs, gs2, gs3, ↓reduceIte, Nat.reduceEqDiff, Nat.mul_one, Nat.add_zero, Nat.zero_add, Nat.zero_mul, Int.toNat_natCast, Int.reduceToNat, Nat.reduceMul, Nat.reduceAdd, decide_true, decide_false, Bool.not_true, Bool.not_false, true_and, and_true, List.map_cons, List.map_nil, List.nil_append, List.cons_append, List.append_nil, Option.map_some, Option.bind_some, List.getElem?_cons_zero, List.getElem?_cons_succ, Bool.false_eq_true, not_true_eq_false, not_false_eq_true, List.contains_cons, List.contains_nil, Nat.reduceBEq, Bool.true_or, Bool.false_or, Bool.or_true, List.set_cons_zero, List.set_cons_succ, List.length_cons, List.length_nil, isLd, Bool.true_and, Bool.false_and, Bool.and_true, Bool.and_false], by simp (maxSteps := 300000) (disch := omega) only [gs, gs2, gs3, ↓reduceIte, Nat.reduceEqDiff, Nat.mul_one, Nat.add_zero, Nat.zero_add, Nat.zero_mul, Int.toNat_natCast, Int.reduceToNat, Nat.reduceMul, Nat.reduceAdd, decide_true, decide_false, Bool.not_true, Bool.not_false, true_and, and_true, List.map_cons, List.map_nil, List.nil_append, List.cons_append, List.append_nil, Option.map_some, Option.bind_some, List.getElem?_cons_zero, List.getElem?_cons_succ, Bool.false_eq_true, not_true_eq_false, not_false_eq_true, List.contains_cons, List.contains_nil, Nat.reduceBEq, Bool.true_or, Bool.false_or, Bool.or_true, List.set_cons_zero, List.set_cons_succ, List.length_cons, List.length_nil, isLd, Bool.true_and, Bool.false_and, Bool.and_true, Bool.and_false] <;> rfl, by omega, by omega, hS, hb, ⟨rfl, hnd, fun v => Iff.rfl⟩, fun p q h1 h2 => by omega⟩ ?_
  rintro m T G' ⟨i, ys, e0, e1, e2, e6, hm, hi1, s, hys, hsm, hso⟩
  simp (maxSteps := 300000) (disch := omega) only [gs, gs2, gs3, ↓reduceIte, Nat.reduceEqDiff, Nat.mul_one, Nat.add_zero, Nat.zero_add, Nat.zero_mul, Int.toNat_natCast, Int.reduceToNat, Nat.reduceMul, Nat.reduceAdd, decide_true, decide_false, Bool.not_true, Bool.not_false, true_and, and_true, List.map_cons, List.map_nil, List.nil_append, List.cons_append, List.append_nil, Option.map_some, Option.bind_some, List.getElem?_cons_zero, List.getElem?_cons_succ, Bool.false_eq_true, not_true_eq_false, not_false_eq_true, List.contains_cons, List.contains_nil, Nat.reduceBEq, Bool.true_or, Bool.false_or, Bool.or_true, List.set_cons_zero, List.set_cons_succ, List.length_cons, List.length_nil, isLd, Bool.true_and, Bool.false_and, Bool.and_true, Bool.and_false, e0, e1, e2, e6]
  by_cases hi : (i : Int) < xs.length
  · simp (maxSteps := 300000) (disch := omega) only [gs, gs2, gs3, ↓reduceIte, Nat.reduceEqDiff, Nat.mul_one, Nat.add_zero, Nat.zero_add, Nat.zero_mul, Int.toNat_natCast, Int.reduceToNat, Nat.reduceMul, Nat.reduceAdd, decide_true, decide_false, Bool.not_true, Bool.not_false, true_and, and_true, List.map_cons, List.map_nil, List.nil_append, List.cons_append, List.append_nil, Option.map_some, Option.bind_some, List.getElem?_cons_zero, List.getElem?_cons_succ, Bool.false_eq_true, not_true_eq_false, not_false_eq_true, List.contains_cons, List.contains_nil, Nat.reduceBEq, Bool.true_or, Bool.false_or, Bool.or_true, List.set_cons_zero, List.set_cons_succ, List.length_cons, List.length_nil, isLd, Bool.true_and, Bool.false_and, Bool.and_true, Bool.and_false, hi, e0, e1, e2, e6]
    refine gLoop_intro (fun m' T G'' => ∃ (j : Nat) (ys : List Int), T 0 = .slice (some ⟨b, 0, none⟩) xs.length c ∧ T 1 = .int .i64 0 ∧ T 2 = .int .i64 xs.length ∧ T 6 = .int .i64 i ∧ T 7 = .int .i64 j ∧ m' = j ∧ j ≤ i ∧ Sub H G'' ∧ G'' b = some ⟨ys.map I64 ++ r, true⟩ ∧ Same xs ys ∧ ∀ p q, p < q → q ≤ i → q ≠ j → ys.getD p 0 ≤ ys.getD q 0)
      i ⟨i, ys, by simp (maxSteps := 300000) (disch := omega) only [gs, gs2, gs3, ↓reduceIte, Nat.reduceEqDiff, Nat.mul_one, Nat.add_zero, Nat.zero_add, Nat.zero_mul, Int.toNat_natCast, Int.reduceToNat, Nat.reduceMul, Nat.reduceAdd, decide_true, decide_false, Bool.not_true, Bool.not_false, true_and, and_true, List.map_cons, List.map_nil, List.nil_append, List.cons_append, List.append_nil, Option.map_some, Option.bind_some, List.getElem?_cons_zero, List.getElem?_cons_succ, Bool.false_eq_true, not_true_eq_false, not_false_eq_true, List.contains_cons, List.contains_nil, Nat.reduceBEq, Bool.true_or, Bool.false_or, Bool.or_true, List.set_cons_zero, List.set_cons_succ, List.length_cons, List.length_nil, isLd, Bool.true_and, Bool.false_and, Bool.and_true, Bool.and_false, e0], by simp (maxSteps := 300000) (disch := omega) only [gs, gs2, gs3, ↓reduceIte, Nat.reduceEqDiff, Nat.mul_one, Nat.add_zero, Nat.zero_add, Nat.zero_mul, Int.toNat_natCast, Int.reduceToNat, Nat.reduceMul, Nat.reduceAdd, decide_true, decide_false, Bool.not_true, Bool.not_false, true_and, and_true, List.map_cons, List.map_nil, List.nil_append, List.cons_append, List.append_nil, Option.map_some, Option.bind_some, List.getElem?_cons_zero, List.getElem?_cons_succ, Bool.false_eq_true, not_true_eq_false, not_false_eq_true, List.contains_cons, List.contains_nil, Nat.reduceBEq, Bool.true_or, Bool.false_or, Bool.or_true, List.set_cons_zero, List.set_cons_succ, List.length_cons, List.length_nil, isLd, Bool.true_and, Bool.false_and, Bool.and_true, Bool.and_false, e1], by simp (maxSteps := 300000) (disch := omega) only [gs, gs2, gs3, ↓reduceIte, Nat.reduceEqDiff, Nat.mul_one, Nat.add_zero, Nat.zero_add, Nat.zero_mul, Int.toNat_natCast, Int.reduceToNat, Nat.reduceMul, Nat.reduceAdd, decide_true, decide_false, Bool.not_true, Bool.not_false, true_and, and_true, List.map_cons, List.map_nil, List.nil_append, List.cons_append, List.append_nil, Option.map_some, Option.bind_some, List.getElem?_cons_zero, List.getElem?_cons_succ, Bool.false_eq_true, not_true_eq_false, not_false_eq_true, List.contains_cons, List.contains_nil, Nat.reduceBEq, Bool.true_or, Bool.false_or, Bool.or_true, List.set_cons_zero, List.set_cons_succ, List.length_cons, List.length_nil, isLd, Bool.true_and, Bool.false_and, Bool.and_true, Bool.and_false, e2], by simp (maxSteps := 300000) (disch := omega) only [gs, gs2, gs3, ↓reduceIte, Nat.reduceEqDiff, Nat.mul_one, Nat.add_zero, Nat.zero_add, Nat.zero_mul, Int.toNat_natCast, Int.reduceToNat, Nat.reduceMul, Nat.reduceAdd, decide_true, decide_false, Bool.not_true, Bool.not_false, true_and, and_true, List.map_cons, List.map_nil, List.nil_append, List.cons_append, List.append_nil, Option.map_some, Option.bind_some, List.getElem?_cons_zero, List.getElem?_cons_succ, Bool.false_eq_true, not_true_eq_false, not_false_eq_true, List.contains_cons, List.contains_nil, Nat.reduceBEq, Bool.true_or, Bool.false_or, Bool.or_true, List.set_cons_zero, List.set_cons_succ, List.length_cons, List.length_nil, isLd, Bool.true_and, Bool.false_and, Bool.and_true, Bool.and_false, e6], by simp (maxSteps := 300000) (disch := omega) only [gs, gs2, gs3, ↓reduceIte, Nat.reduceEqDiff, Nat.mul_one, Nat.add_zero, Nat.zero_add, Nat.zero_mul, Int.toNat_natCast, Int.reduceToNat, Nat.reduceMul, Nat.reduceAdd, decide_true, decide_false, Bool.not_true, Bool.not_false, true_and, and_true, List.map_cons, List.map_nil, List.nil_append, List.cons_append, List.append_nil, Option.map_some, Option.bind_some, List.getElem?_cons_zero, List.getElem?_cons_succ, Bool.false_eq_true, not_true_eq_false, not_false_eq_true, List.contains_cons, List.contains_nil, Nat.reduceBEq, Bool.true_or, Bool.false_or, Bool.or_true, List.set_cons_zero, List.set_cons_succ, List.length_cons, List.length_nil, isLd, Bool.true_and, Bool.false_and, Bool.and_true, Bool.and_false], rfl, Nat.le_refl _, s, hys, hsm, fun p q h1 h2 h3 => hso p q h1 (by omega) (by have := hsm.len; omega)⟩ ?_
    clear e0 e1 e2 e6 s hys hsm hso ys
    rintro m' T G'' ⟨j, ys, e0, e1, e2, e6, e7, rfl, hji, s, hys, hsm, hso⟩
    have u := rdl hys
    have hln := hsm.len
    simp (maxSteps := 300000) (disch := omega) only [gs, gs2, gs3, ↓reduceIte, Nat.reduceEqDiff, Nat.mul_one, Nat.add_zero, Nat.zero_add, Nat.zero_mul, Int.toNat_natCast, Int.reduceToNat, Nat.reduceMul, Nat.reduceAdd, decide_true, decide_false, Bool.not_true, Bool.not_false, true_and, and_true, List.map_cons, List.map_nil, List.nil_append, List.cons_append, List.append_nil, Option.map_some, Option.bind_some, List.getElem?_cons_zero, List.getElem?_cons_succ, Bool.false_eq_true, not_true_eq_false, not_false_eq_true, List.contains_cons, List.contains_nil, Nat.reduceBEq, Bool.true_or, Bool.false_or, Bool.or_true, List.set_cons_zero, List.set_cons_succ, List.length_cons, List.length_nil, isLd, Bool.true_and, Bool.false_and, Bool.and_true, Bool.and_false, e0, e1, e2, e6, e7]
    have done : (m' = 0 ∨ ys.getD (m' - 1) 0 ≤ ys.getD m' 0) → ∀ p q, p < q → q < i + 1 → q < ys.length → ys.getD p 0 ≤ ys.getD q 0 := fun h p q h1 h2 h3 => by
      by_cases hq : q = m'
      · subst hq
        rcases h with h | h
        · omega
        · by_cases hp : p = q - 1
          · rw [hp]; exact h
          · exact Int.le_trans (hso p (q - 1) (by omega) (by omega) (by omega)) h
      · exact hso p q h1 (by omega) hq
    by_cases h0 : (0 : Int) < m'
    · have hj1 : ((m' : Int) - 1).toNat = m' - 1 := by omega
      simp (maxSteps := 300000) (disch := omega) only [gs, gs2, gs3, ↓reduceIte, Nat.reduceEqDiff, Nat.mul_one, Nat.add_zero, Nat.zero_add, Nat.zero_mul, Int.toNat_natCast, Int.reduceToNat, Nat.reduceMul, Nat.reduceAdd, decide_true, decide_false, Bool.not_true, Bool.not_false, true_and, and_true, List.map_cons, List.map_nil, List.nil_append, List.cons_append, List.append_nil, Option.map_some, Option.bind_some, List.getElem?_cons_zero, List.getElem?_cons_succ, Bool.false_eq_true, not_true_eq_false, not_false_eq_true, List.contains_cons, List.contains_nil, Nat.reduceBEq, Bool.true_or, Bool.false_or, Bool.or_true, List.set_cons_zero, List.set_cons_succ, List.length_cons, List.length_nil, isLd, Bool.true_and, Bool.false_and, Bool.and_true, Bool.and_false, h0, e0, e1, e2, e6, e7, u]
      rw [hj1]
      refine cmp_Less_ok _ _ ?_
      by_cases hlt : ys.getD m' 0 < ys.getD (m' - 1) 0
      · simp (maxSteps := 300000) (disch := omega) only [gs, gs2, gs3, ↓reduceIte, Nat.reduceEqDiff, Nat.mul_one, Nat.add_zero, Nat.zero_add, Nat.zero_mul, Int.toNat_natCast, Int.reduceToNat, Nat.reduceMul, Nat.reduceAdd, decide_true, decide_false, Bool.not_true, Bool.not_false, true_and, and_true, List.map_cons, List.map_nil, List.nil_append, List.cons_append, List.append_nil, Option.map_some, Option.bind_some, List.getElem?_cons_zero, List.getElem?_cons_succ, Bool.false_eq_true, not_true_eq_false, not_false_eq_true, List.contains_cons, List.contains_nil, Nat.reduceBEq, Bool.true_or, Bool.false_or, Bool.or_true, List.set_cons_zero, List.set_cons_succ, List.length_cons, List.length_nil, isLd, Bool.true_and, Bool.false_and, Bool.and_true, Bool.and_false, hlt, e0, e1, e2, e6, e7, u]
        rw [hj1]
        refine st_one hys (by rw [List.length_append, List.length_map]; omega) rfl ?_
        simp (maxSteps := 300000) (disch := omega) only [gs, gs2, gs3, ↓reduceIte, Nat.reduceEqDiff, Nat.mul_one, Nat.add_zero, Nat.zero_add, Nat.zero_mul, Int.toNat_natCast, Int.reduceToNat, Nat.reduceMul, Nat.reduceAdd, decide_true, decide_false, Bool.not_true, Bool.not_false, true_and, and_true, List.map_cons, List.map_nil, List.nil_append, List.cons_append, List.append_nil, Option.map_some, Option.bind_some, List.getElem?_cons_zero, List.getElem?_cons_succ, Bool.false_eq_true, not_true_eq_false, not_false_eq_true, List.contains_cons, List.contains_nil, Nat.reduceBEq, Bool.true_or, Bool.false_or, Bool.or_true, List.set_cons_zero, List.set_cons_succ, List.length_cons, List.length_nil, isLd, Bool.true_and, Bool.false_and, Bool.and_true, Bool.and_false, e0, e1, e2, e6, e7]
        rw [hj1]
        refine st_one (put_same _ _ _) (by rw [List.length_set, List.length_append, List.length_map]; omega) rfl ?_
        simp (maxSteps := 300000) (disch := omega) only [gs, gs2, gs3, ↓reduceIte, Nat.reduceEqDiff, Nat.mul_one, Nat.add_zero, Nat.zero_add, Nat.zero_mul, Int.toNat_natCast, Int.reduceToNat, Nat.reduceMul, Nat.reduceAdd, decide_true, decide_false, Bool.not_true, Bool.not_false, true_and, and_true, List.map_cons, List.map_nil, List.nil_append, List.cons_append, List.append_nil, Option.map_some, Option.bind_some, List.getElem?_cons_zero, List.getElem?_cons_succ, Bool.false_eq_true, not_true_eq_false, not_false_eq_true, List.contains_cons, List.contains_nil, Nat.reduceBEq, Bool.true_or, Bool.false_or, Bool.or_true, List.set_cons_zero, List.set_cons_succ, List.length_cons, List.length_nil, isLd, Bool.true_and, Bool.false_and, Bool.and_true, Bool.and_false, e0, e1, e2, e6, e7, put_put']
        rw [sw_cells (by omega) (by omega)]
        have hg := sw_get (ys := ys) (j := m') (by omega) (by omega)
        refine ⟨m' - 1, by omega, _, Sub.refl _, m' - 1, sw ys m', by congr 1; omega, rfl, by omega, s.skip hH, put_same _ _ _, hsm.sw (by omega) (by omega), fun p q h1 h2 h3 => ?_⟩
        rw [hg, hg]
        by_cases q2 : q = m'
        · rw [if_neg h3, if_pos q2]
          by_cases p1 : p = m' - 1
          · rw [if_pos p1]; omega
          · rw [if_neg p1, if_neg (by omega)]; exact hso p (m' - 1) (by omega) (by omega) (by omega)
        · rw [if_neg h3, if_neg q2]
          by_cases p1 : p = m' - 1
          · rw [if_pos p1]; exact hso m' q (by omega) h2 q2
          · by_cases p2 : p = m'
            · rw [if_neg p1, if_pos p2]; exact hso (m' - 1) q (by omega) h2 q2
            · rw [if_neg p1, if_neg p2]; exact hso p q h1 h2 q2
      · simp (maxSteps := 300000) (disch := omega) only [gs, gs2, gs3, ↓reduceIte, Nat.reduceEqDiff, Nat.mul_one, Nat.add_zero, Nat.zero_add, Nat.zero_mul, Int.toNat_natCast, Int.reduceToNat, Nat.reduceMul, Nat.reduceAdd, decide_true, decide_false, Bool.not_true, Bool.not_false, true_and, and_true, List.map_cons, List.map_nil, List.nil_append, List.cons_append, List.append_nil, Option.map_some, Option.bind_some, List.getElem?_cons_zero, List.getElem?_cons_succ, Bool.false_eq_true, not_true_eq_false, not_false_eq_true, List.contains_cons, List.contains_nil, Nat.reduceBEq, Bool.true_or, Bool.false_or, Bool.or_true, List.set_cons_zero, List.set_cons_succ, List.length_cons, List.length_nil, isLd, Bool.true_and, Bool.false_and, Bool.and_true, Bool.and_false, hlt, e0, e1, e2, e6, e7]
        exact ⟨m - 1, by omega, G'', Sub.refl _, i + 1, ys, rfl, by omega, by omega, s, hys, hsm, done (.inr (by omega))⟩
    · simp (maxSteps := 300000) (disch := omega) only [gs, gs2, gs3, ↓reduceIte, Nat.reduceEqDiff, Nat.mul_one, Nat.add_zero, Nat.zero_add, Nat.zero_mul, Int.toNat_natCast, Int.reduceToNat, Nat.reduceMul, Nat.reduceAdd, decide_true, decide_false, Bool.not_true, Bool.not_false, true_and, and_true, List.map_cons, List.map_nil, List.nil_append, List.cons_append, List.append_nil, Option.map_some, Option.bind_some, List.getElem?_cons_zero, List.getElem?_cons_succ, Bool.false_eq_true, not_true_eq_false, not_false_eq_true, List.contains_cons, List.contains_nil, Nat.reduceBEq, Bool.true_or, Bool.false_or, Bool.or_true, List.set_cons_zero, List.set_cons_succ, List.length_cons, List.length_nil, isLd, Bool.true_and, Bool.false_and, Bool.and_true, Bool.and_false, h0, e0, e1, e2, e6, e7]
      exact ⟨m - 1, by omega, G'', Sub.refl _, i + 1, ys, rfl, by omega, by omega, s, hys, hsm, done (.inl (by omega))⟩
  · simp (maxSteps := 300000) (disch := omega) only [gs, gs2, gs3, ↓reduceIte, Nat.reduceEqDiff, Nat.mul_one, Nat.add_zero, Nat.zero_add, Nat.zero_mul, Int.toNat_natCast, Int.reduceToNat, Nat.reduceMul, Nat.reduceAdd, decide_true, decide_false, Bool.not_true, Bool.not_false, true_and, and_true, List.map_cons, List.map_nil, List.nil_append, List.cons_append, List.append_nil, Option.map_some, Option.bind_some, List.getElem?_cons_zero, List.getElem?_cons_succ, Bool.false_eq_true, not_true_eq_false, not_false_eq_true, List.contains_cons, List.contains_nil, Nat.reduceBEq, Bool.true_or, Bool.false_or, Bool.or_true, List.set_cons_zero, List.set_cons_succ, List.length_cons, List.length_nil, isLd, Bool.true_and, Bool.false_and, Bool.and_true, Bool.and_false, hi, e0, e1, e2, e6]
    refine hk _ ys s hys hsm fun p hp => ?_
    have h1 := hso p (p + 1) (by omega) (by have := hsm.len; omega) hp
    have h2 : ys.getD p 0 ≠ ys.getD (p + 1) 0 := fun e => by have := hsm.inj p (p + 1) (by omega) hp e; omega
    omega
theorem wu64 (n : Int) (h0 : 0 ≤ n) (h1 : n < 18446744073709551616) : IntKind.u64.wrap n = n := by rw [IntKind.wrap_u64]; omega
theorem wu8 (n : Int) (h0 : 0 ≤ n) (h1 : n < 256) : IntKind.u8.wrap n = n := by rw [IntKind.wrap_u8]; omega
theorem gL_ixs {P : Program} {r : List GOp} {K : (Nat → Value) → GH → Prop} {T : Nat → Value} {d : Option Nat} {G : GH} {s : ByteArray} {k : IntKind} {n : Nat} (h : n < s.size) (hz : ∀ z : Int, gL P r K T d G (some (.int .u8 z))) : gL P r K T d G (ixsV (.string s) (.int k n)) := by
  have : ixsV (.string s) (.int k n) = some (.int .u8 (s[n]).toNat) := by
    simp [ixsV, onStr, onInt, h]
  rw [this]; exact hz _
set_option maxRecDepth 20000 in
theorem bits_Len_ok {G : GH} (n : Nat) (hn : n ≤ 12) {K : Value → GH → Prop} (hk : ∀ z, K (.int .i64 z) G) : GC Try.prog 261 [.int .u64 n] G K := by
  refine c_math_bits_Len_i (by simp) ?_
  simp (maxSteps := 300000) (disch := omega) only [gs, gs2, gs3, ↓reduceIte, Nat.reduceEqDiff, Nat.mul_one, Nat.add_zero, Nat.zero_add, Nat.zero_mul, Int.toNat_natCast, Int.reduceToNat, Nat.reduceMul, Nat.reduceAdd, decide_true, decide_false, Bool.not_true, Bool.not_false, true_and, and_true, List.map_cons, List.map_nil, List.nil_append, List.cons_append, List.append_nil, Option.map_some, Option.bind_some, List.getElem?_cons_zero, List.getElem?_cons_succ, Bool.false_eq_true, not_true_eq_false, not_false_eq_true, List.contains_cons, List.contains_nil, Nat.reduceBEq, Bool.true_or, Bool.false_or, Bool.or_true, List.set_cons_zero, List.set_cons_succ, List.length_cons, List.length_nil, isLd, Bool.true_and, Bool.false_and, Bool.and_true, Bool.and_false]
  refine c_math_bits_Len64_i (by simp) ?_
  simp (maxSteps := 300000) (disch := omega) only [gs, gs2, gs3, ↓reduceIte, Nat.reduceEqDiff, Nat.mul_one, Nat.add_zero, Nat.zero_add, Nat.zero_mul, Int.toNat_natCast, Int.reduceToNat, Nat.reduceMul, Nat.reduceAdd, decide_true, decide_false, Bool.not_true, Bool.not_false, true_and, and_true, List.map_cons, List.map_nil, List.nil_append, List.cons_append, List.append_nil, Option.map_some, Option.bind_some, List.getElem?_cons_zero, List.getElem?_cons_succ, Bool.false_eq_true, not_true_eq_false, not_false_eq_true, List.contains_cons, List.contains_nil, Nat.reduceBEq, Bool.true_or, Bool.false_or, Bool.or_true, List.set_cons_zero, List.set_cons_succ, List.length_cons, List.length_nil, isLd, Bool.true_and, Bool.false_and, Bool.and_true, Bool.and_false, show ((4294967296 : Int) ≤ n) = False from eq_false (by omega), show ((65536 : Int) ≤ n) = False from eq_false (by omega), show ((256 : Int) ≤ n) = False from eq_false (by omega), wu8]
  refine gL_ixs (Nat.lt_of_lt_of_le (show n < 256 by omega) (by decide +kernel)) fun z => ?_
  simp (maxSteps := 300000) (disch := omega) only [gs, gs2, gs3, ↓reduceIte, Nat.reduceEqDiff, Nat.mul_one, Nat.add_zero, Nat.zero_add, Nat.zero_mul, Int.toNat_natCast, Int.reduceToNat, Nat.reduceMul, Nat.reduceAdd, decide_true, decide_false, Bool.not_true, Bool.not_false, true_and, and_true, List.map_cons, List.map_nil, List.nil_append, List.cons_append, List.append_nil, Option.map_some, Option.bind_some, List.getElem?_cons_zero, List.getElem?_cons_succ, Bool.false_eq_true, not_true_eq_false, not_false_eq_true, List.contains_cons, List.contains_nil, Nat.reduceBEq, Bool.true_or, Bool.false_or, Bool.or_true, List.set_cons_zero, List.set_cons_succ, List.length_cons, List.length_nil, isLd, Bool.true_and, Bool.false_and, Bool.and_true, Bool.and_false]
  exact hk _
theorem slices_Sort_ok {G H : GH} {b c : Nat} {xs : List Int} {r : List Value} (hS : Sub H G) (hH : H b = none) (hb : G b = some ⟨xs.map I64 ++ r, true⟩) (hl : xs.length ≤ 12) (hnd : ∀ p q, p < xs.length → q < xs.length → xs.getD p 0 = xs.getD q 0 → p = q) {K : Value → GH → Prop}
    (hk : ∀ G' ys, Sub H G' → G' b = some ⟨ys.map I64 ++ r, true⟩ → Same xs ys → Rise ys → K (.tuple [].toArray) G') : GC Try.prog 244 [.slice (some ⟨b, 0, none⟩) xs.length c] G K := by
  refine c_slices_Sort_int64_int64_i (by simp) ?_
  simp (maxSteps := 300000) (disch := omega) only [gs, gs2, gs3, ↓reduceIte, Nat.reduceEqDiff, Nat.mul_one, Nat.add_zero, Nat.zero_add, Nat.zero_mul, Int.toNat_natCast, Int.reduceToNat, Nat.reduceMul, Nat.reduceAdd, decide_true, decide_false, Bool.not_true, Bool.not_false, true_and, and_true, List.map_cons, List.map_nil, List.nil_append, List.cons_append, List.append_nil, Option.map_some, Option.bind_some, List.getElem?_cons_zero, List.getElem?_cons_succ, Bool.false_eq_true, not_true_eq_false, not_false_eq_true, List.contains_cons, List.contains_nil, Nat.reduceBEq, Bool.true_or, Bool.false_or, Bool.or_true, List.set_cons_zero, List.set_cons_succ, List.length_cons, List.length_nil, isLd, Bool.true_and, Bool.false_and, Bool.and_true, Bool.and_false]
  rw [wu64 _ (by omega) (by omega)]
  refine bits_Len_ok xs.length hl fun z => ?_
  simp (maxSteps := 300000) (disch := omega) only [gs, gs2, gs3, ↓reduceIte, Nat.reduceEqDiff, Nat.mul_one, Nat.add_zero, Nat.zero_add, Nat.zero_mul, Int.toNat_natCast, Int.reduceToNat, Nat.reduceMul, Nat.reduceAdd, decide_true, decide_false, Bool.not_true, Bool.not_false, true_and, and_true, List.map_cons, List.map_nil, List.nil_append, List.cons_append, List.append_nil, Option.map_some, Option.bind_some, List.getElem?_cons_zero, List.getElem?_cons_succ, Bool.false_eq_true, not_true_eq_false, not_false_eq_true, List.contains_cons, List.contains_nil, Nat.reduceBEq, Bool.true_or, Bool.false_or, Bool.or_true, List.set_cons_zero, List.set_cons_succ, List.length_cons, List.length_nil, isLd, Bool.true_and, Bool.false_and, Bool.and_true, Bool.and_false]
  refine c_slices_pdqsortOrdered_int64_i (by simp) ?_
  simp (maxSteps := 300000) (disch := omega) only [gs, gs2, gs3, ↓reduceIte, Nat.reduceEqDiff, Nat.mul_one, Nat.add_zero, Nat.zero_add, Nat.zero_mul, Int.toNat_natCast, Int.reduceToNat, Nat.reduceMul, Nat.reduceAdd, decide_true, decide_false, Bool.not_true, Bool.not_false, true_and, and_true, List.map_cons, List.map_nil, List.nil_append, List.cons_append, List.append_nil, Option.map_some, Option.bind_some, List.getElem?_cons_zero, List.getElem?_cons_succ, Bool.false_eq_true, not_true_eq_false, not_false_eq_true, List.contains_cons, List.contains_nil, Nat.reduceBEq, Bool.true_or, Bool.false_or, Bool.or_true, List.set_cons_zero, List.set_cons_succ, List.length_cons, List.length_nil, isLd, Bool.true_and, Bool.false_and, Bool.and_true, Bool.and_false]
  refine gLoop_intro (fun m T G' => T 0 = .slice (some ⟨b, 0, none⟩) xs.length c ∧ T 1 = .int .i64 0 ∧ T 2 = .int .i64 xs.length ∧ G' = G) 0 ⟨by simp (maxSteps := 300000) (disch := omega) only [gs, gs2, gs3, ↓reduceIte, Nat.reduceEqDiff, Nat.mul_one, Nat.add_zero, Nat.zero_add, Nat.zero_mul, Int.toNat_natCast, Int.reduceToNat, Nat.reduceMul, Nat.reduceAdd, decide_true, decide_false, Bool.not_true, Bool.not_false, true_and, and_true, List.map_cons, List.map_nil, List.nil_append, List.cons_append, List.append_nil, Option.map_some, Option.bind_some, List.getElem?_cons_zero, List.getElem?_cons_succ, Bool.false_eq_true, not_true_eq_false, not_false_eq_true, List.contains_cons, List.contains_nil, Nat.reduceBEq, Bool.true_or, Bool.false_or, Bool.or_true, List.set_cons_zero, List.set_cons_succ, List.length_cons, List.length_nil, isLd, Bool.true_and, Bool.false_and, Bool.and_true, Bool.and_false], by simp (maxSteps := 300000) (disch := omega) only [gs, gs2, gs3, ↓reduceIte, Nat.reduceEqDiff, Nat.mul_one, Nat.add_zero, Nat.zero_add, Nat.zero_mul, Int.toNat_natCast, Int.reduceToNat, Nat.reduceMul, Nat.reduceAdd, decide_true, decide_false, Bool.not_true, Bool.not_false, true_and, and_true, List.map_cons, List.map_nil, List.nil_append, List.cons_append, List.append_nil, Option.map_some, Option.bind_some, List.getElem?_cons_zero, List.getElem?_cons_succ, Bool.false_eq_true, not_true_eq_false, not_false_eq_true, List.contains_cons, List.contains_nil, Nat.reduceBEq, Bool.true_or, Bool.false_or, Bool.or_true, List.set_cons_zero, List.set_cons_succ, List.length_cons, List.length_nil, isLd, Bool.true_and, Bool.false_and, Bool.and_true, Bool.and_false], by simp (maxSteps := 300000) (disch := omega) only [gs, gs2, gs3, ↓reduceIte, Nat.reduceEqDiff, Nat.mul_one, Nat.add_zero, Nat.zero_add, Nat.zero_mul, Int.toNat_natCast, Int.reduceToNat, Nat.reduceMul, Nat.reduceAdd, decide_true, decide_false, Bool.not_true, Bool.not_false, true_and, and_true, List.map_cons, List.map_nil, List.nil_append, List.cons_append, List.append_nil, Option.map_some, Option.bind_some, List.getElem?_cons_zero, List.getElem?_cons_succ, Bool.false_eq_true, not_true_eq_false, not_false_eq_true, List.contains_cons, List.contains_nil, Nat.reduceBEq, Bool.true_or, Bool.false_or, Bool.or_true, List.set_cons_zero, List.set_cons_succ, List.length_cons, List.length_nil, isLd, Bool.true_and, Bool.false_and, Bool.and_true, Bool.and_false], rfl⟩ ?_
  rintro m T G' ⟨e0, e1, e2, rfl⟩
  simp (maxSteps := 300000) (disch := omega) only [gs, gs2, gs3, ↓reduceIte, Nat.reduceEqDiff, Nat.mul_one, Nat.add_zero, Nat.zero_add, Nat.zero_mul, Int.toNat_natCast, Int.reduceToNat, Nat.reduceMul, Nat.reduceAdd, decide_true, decide_false, Bool.not_true, Bool.not_false, true_and, and_true, List.map_cons, List.map_nil, List.nil_append, List.cons_append, List.append_nil, Option.map_some, Option.bind_some, List.getElem?_cons_zero, List.getElem?_cons_succ, Bool.false_eq_true, not_true_eq_false, not_false_eq_true, List.contains_cons, List.contains_nil, Nat.reduceBEq, Bool.true_or, Bool.false_or, Bool.or_true, List.set_cons_zero, List.set_cons_succ, List.length_cons, List.length_nil, isLd, Bool.true_and, Bool.false_and, Bool.and_true, Bool.and_false, e0, e1, e2, Int.sub_zero]
  have h12 : (xs.length : Int) ≤ 12 := by omega
  simp (maxSteps := 300000) (disch := omega) only [gs, gs2, gs3, ↓reduceIte, Nat.reduceEqDiff, Nat.mul_one, Nat.add_zero, Nat.zero_add, Nat.zero_mul, Int.toNat_natCast, Int.reduceToNat, Nat.reduceMul, Nat.reduceAdd, decide_true, decide_false, Bool.not_true, Bool.not_false, true_and, and_true, List.map_cons, List.map_nil, List.nil_append, List.cons_append, List.append_nil, Option.map_some, Option.bind_some, List.getElem?_cons_zero, List.getElem?_cons_succ, Bool.false_eq_true, not_true_eq_false, not_false_eq_true, List.contains_cons, List.contains_nil, Nat.reduceBEq, Bool.true_or, Bool.false_or, Bool.or_true, List.set_cons_zero, List.set_cons_succ, List.length_cons, List.length_nil, isLd, Bool.true_and, Bool.false_and, Bool.and_true, Bool.and_false, h12, e0, e1, e2]
  refine slices_insertionSort_ok hS hH hb hl hnd fun G3 ys s h1 h2 h3 => ?_
  simp (maxSteps := 300000) (disch := omega) only [gs, gs2, gs3, ↓reduceIte, Nat.reduceEqDiff, Nat.mul_one, Nat.add_zero, Nat.zero_add, Nat.zero_mul, Int.toNat_natCast, Int.reduceToNat, Nat.reduceMul, Nat.reduceAdd, decide_true, decide_false, Bool.not_true, Bool.not_false, true_and, and_true, List.map_cons, List.map_nil, List.nil_append, List.cons_append, List.append_nil, Option.map_some, Option.bind_some, List.getElem?_cons_zero, List.getElem?_cons_succ, Bool.false_eq_true, not_true_eq_false, not_false_eq_true, List.contains_cons, List.contains_nil, Nat.reduceBEq, Bool.true_or, Bool.false_or, Bool.or_true, List.set_cons_zero, List.set_cons_succ, List.length_cons, List.length_nil, isLd, Bool.true_and, Bool.false_and, Bool.and_true, Bool.and_false]
  exact hk _ ys s h1 h2 h3
/-- the result of a function that returns a list and a code. -/
abbrev LI (v : List Int × Int) (K : Value → GH → Prop) (G : GH) : Prop := ∀ G' A c, New G G' A c (v.1.map I64) 1 v.1.length → K (.tuple [.slice A v.1.length c, .int .i64 v.2].toArray) G'
theorem LI.err {K : Value → GH → Prop} {G : GH} {v : List Int × Int} {code : Int} (hk : LI v K G) (h : v = ([], code)) : K (.tuple [.slice none 0 0, .int .i64 code].toArray) G := by
  subst h; exact hk G none 0 (New.nil _ _)
theorem filter_iota (p : Int → Bool) (k : Nat) : (iota (k + 1)).filter p = if p k = true then (iota k).filter p ++ [(k : Int)] else (iota k).filter p := by
  rw [iota_succ, List.filter_append]
  by_cases h : p k = true
  · rw [if_pos h]; simp [h]
  · rw [if_neg h]; simp [h]
theorem IntS.cells {G : GH} {A : Option Addr} {c : Nat} {xs : List Int} (h : IntS G A c xs) : Cells G A (xs.map I64) := fun i v hv => by
  rw [List.getElem?_map] at hv
  obtain ⟨x, hx, rfl⟩ := Option.map_eq_some_iff.1 hv
  have hi := (List.getElem?_eq_some_iff.1 hx).1
  rw [h.rd i hi]
  simp [List.getD, hx, I64]
def updAt (f : Int → Int) (v x : Int) : Int → Int := fun w => if w = v then x else f w
theorem New.rdF {G G' : GH} {A : Option Addr} {c n : Nat} {f : Int → Int} (h : New G G' A c (fcells n f) 1 n) {v : Int} (h0 : 0 ≤ v) (h1 : v < n) : rd G' (pa A v.toNat) = some (.int .i64 (f v)) := by
  refine h.cells v.toNat _ ?_
  have := fcells_get (b := f) (rest := []) h0 h1
  rw [List.append_nil] at this; exact this
theorem New.stF {G G' : GH} {A : Option Addr} {c n o : Nat} {f : Int → Int} (h : New G G' A c (fcells n f) 1 n) {v x : Int} (ho : o = v.toNat) (h0 : 0 ≤ v) (h1 : v < n) {K : Value → GH → Prop} (hK : ∀ G'', New G G'' A c (fcells n (updAt f v x)) 1 n → K undef G'') : gSt 1 (.pointer (pa A o)) (.int .i64 x) G' K := by
  subst ho
  refine New.store h (k := v.toNat) (v := .int .i64 x) (by omega) rfl fun G'' hN => hK _ (hN.cast ?_ rfl)
  have := fcells_set (b := f) (rest := []) (x := x) h0 h1
  rw [List.append_nil, List.append_nil] at this
  exact this
theorem rise_lt {xs : List Int} (h : Rise xs) : ∀ (d i : Nat), i + d + 1 < xs.length → xs.getD i 0 < xs.getD (i + d + 1) 0
  | 0, i, hi => h i hi
  | d + 1, i, hi => by
    have h1 := rise_lt h d i (by omega)
    have h2 := h (i + d + 1) (by omega)
    rw [show i + (d + 1) + 1 = i + d + 1 + 1 by omega]
    omega
theorem rise_pw {xs : List Int} (h : Rise xs) : xs.Pairwise (· < ·) := by
  rw [List.pairwise_iff_getElem]
  intro i j hi hj hij
  have := rise_lt h (j - i - 1) i (by omega)
  rw [show i + (j - i - 1) + 1 = j by omega] at this
  simpa [List.getD, hi, hj] using this
theorem pw_ext : ∀ (xs ys : List Int), xs.Pairwise (· < ·) → ys.Pairwise (· < ·) → (∀ v, v ∈ xs ↔ v ∈ ys) → xs = ys
  | [], [], _, _, _ => rfl
  | [], b :: ys, _, _, h => by have := (h b).2 (by simp); simp at this
  | a :: xs, [], _, _, h => by have := (h a).1 (by simp); simp at this
  | a :: xs, b :: ys, h1, h2, h => by
    rw [List.pairwise_cons] at h1 h2
    have hab : a = b := by
      rcases List.mem_cons.1 ((h a).1 (by simp)) with e | m
      · exact e
      · rcases List.mem_cons.1 ((h b).2 (by simp)) with e | m'
        · exact e.symm
        · have := h2.1 a m; have := h1.1 b m'; omega
    subst hab
    rw [pw_ext xs ys h1.2 h2.2 fun v => ?_]
    constructor
    · intro hv
      have := h1.1 v hv
      rcases List.mem_cons.1 ((h v).1 (List.mem_cons_of_mem _ hv)) with e | m
      · omega
      · exact m
    · intro hv
      have := h2.1 v hv
      rcases List.mem_cons.1 ((h v).2 (List.mem_cons_of_mem _ hv)) with e | m
      · omega
      · exact m
theorem iota_pw (n : Nat) : (iota n).Pairwise (· < ·) := by
  rw [List.pairwise_iff_getElem]
  intro i j hi hj hij
  simp only [iota, List.getElem_map, List.getElem_range]
  omega
/-- the sorted nodes that are marked at last. -/
theorem side_sorted {N : Net} (hn : NetOk N) {ys : List Int} (h : Same (reach N.arcs (greatV N) N.n.toNat N.s).q ys) (hr : Rise ys) : ys = sideV N := by
  have h1 := hn.1
  have h2 := hn.2.1
  have hI := BI.reach (es := N.arcs) (fl := greatV N) (n := N.n.toNat) (s := N.s) (by omega)
  refine pw_ext _ _ (rise_pw hr) ((iota_pw _).filter _) fun v => ?_
  rw [h.mem]
  constructor
  · intro hv
    have := hI.rng v hv
    exact (side_mem hn (by omega) (by omega)).2 ((hI.inq v (by omega)).1 hv)
  · intro hv
    have hm := hv
    unfold sideV at hm
    have hm := (List.mem_filter.1 hm).1
    unfold iota at hm
    obtain ⟨i, hi, rfl⟩ := List.mem_map.1 hm
    have hi := List.mem_range.1 hi
    exact (hI.inq _ (by omega)).2 ((side_mem hn (by omega) (by omega)).1 hv)
def del (G : GH) (b : Nat) : GH := fun x => if x = b then none else G x
theorem del_none (G : GH) (b : Nat) : del G b b = none := if_pos rfl
theorem Sub.del (G : GH) (b : Nat) : Sub (Gh.del G b) G := fun x e h => by
  unfold Gh.del at h; split at h
  · cases h
  · exact h
theorem Sub.in_del {K G : GH} {b : Nat} (s : Sub K G) (h : K b = Option.none) : Sub K (Gh.del G b) := fun x e hx => by
  have hxb : x ≠ b := fun e' => by rw [e', h] at hx; cases hx
  unfold Gh.del; rw [if_neg hxb]; exact s x e hx
theorem del_ne (G : GH) {b x : Nat} (h : x ≠ b) : del G b x = G x := if_neg h
theorem BI.inj {es : List T3} {fl : List Int} {n : Nat} {s : Int} {st : BS} (h : BI es fl n s st) : ∀ p q, p < st.q.length → q < st.q.length → st.q.getD p 0 = st.q.getD q 0 → p = q := fun p q hp hq e => q_inj h.nd hp hq e
/-- what is known while the greatest flow is sought. -/
structure LG (G1 G : GH) (N : Net) (bF bR : Nat) (Ao : Option Addr) (co : Nat) (fl : List Int) : Prop where
  sub : Sub G1 G
  nF : G1 bF = none
  f : G bF = some ⟨fl.map I64, true⟩
  r : G bR = some ⟨fcells N.n.toNat (fromF N.s (reach N.arcs fl N.n.toNat N.s)), true⟩
  own : Own G Ao co ((reach N.arcs fl N.n.toNat N.s).q.map I64) 1 (reach N.arcs fl N.n.toNat N.s).q.length
  off : Off G1 Ao
  ne : ∀ a, Ao = some a → a.block ≠ bF
  neR : bR ≠ bF
theorem LG.of {G1 G G' : GH} {N : Net} {bF bR co : Nat} {Ao : Option Addr} {fl : List Int} (s : Sub G1 G) (nF : G1 bF = none) (hf : G bF = some ⟨fl.map I64, true⟩) (hR : G bR = none)
    (hN : New (put G bR ⟨fcells N.n.toNat (fromF N.s (reach N.arcs fl N.n.toNat N.s)), true⟩) G' Ao co ((reach N.arcs fl N.n.toNat N.s).q.map I64) 1 (reach N.arcs fl N.n.toNat N.s).q.length) : LG G1 G' N bF bR Ao co fl := by
  have s1 := (Sub.put hR ⟨fcells N.n.toNat (fromF N.s (reach N.arcs fl N.n.toNat N.s)), true⟩).trans hN.sub
  refine ⟨s.trans s1, nF, s1 _ _ hf, hN.sub _ _ (put_same _ _ _), hN.fresh, (hN.off.mono (Sub.put hR _)).mono s, fun a ha e => ?_, (blk_ne hf hR).symm⟩
  have := (hN.off.mono (Sub.put hR _)) a ha
  rw [e, hf] at this; cases this
theorem impl_greatestFlow_ok {G : GH} {N : Net} {A : Option Addr} {c : Nat} (h : T3S G A c N.arcs) (hn : NetOk N) {K : Value → GH → Prop}
    (hk : ∀ G' bF bO cO r, G bF = none → G bO = none → Sub G G' → G' bF = some ⟨(greatV N).map I64, true⟩ → G' bO = some ⟨(sideV N).map I64 ++ r, true⟩ → (sideV N).length + r.length = cO → bF ≠ bO →
      K (.tuple [.slice (some ⟨bF, 0, none⟩) N.arcs.length N.arcs.length, .slice (some ⟨bO, 0, none⟩) (sideV N).length cO].toArray) G') : GC Try.prog 190 [netV N A c] G K := by
  refine GC_drop (c_impl_greatestFlow_i (by simp) ?_)
  have n1 := hn.1
  have n2 := hn.2.1
  have n3 := hn.2.2.1
  have n4 := hn.2.2.2.1
  have n5 := hn.2.2.2.2.2
  unfold netV netC
  simp (maxSteps := 300000) (disch := omega) only [gs, gs2, gs3, ↓reduceIte, Nat.reduceEqDiff, Nat.mul_one, Nat.add_zero, Nat.zero_add, Nat.zero_mul, Int.toNat_natCast, Int.reduceToNat, Nat.reduceMul, Nat.reduceAdd, decide_true, decide_false, Bool.not_true, Bool.not_false, true_and, and_true, List.map_cons, List.map_nil, List.nil_append, List.cons_append, List.append_nil, Option.map_some, Option.bind_some, List.getElem?_cons_zero, List.getElem?_cons_succ, Bool.false_eq_true, not_true_eq_false, not_false_eq_true, List.contains_cons, List.contains_nil, Nat.reduceBEq, Bool.true_or, Bool.false_or, Bool.or_true, List.set_cons_zero, List.set_cons_succ, List.length_cons, List.length_nil, isLd, Bool.true_and, Bool.false_and, Bool.and_true, Bool.and_false]
  intro b1 hb1
  have s1 := Sub.put hb1 ⟨[.int .i64 N.n, .int .i64 N.s, .int .i64 N.t, .slice A N.arcs.length c], true⟩
  have k0 : rd (put G b1 ⟨[.int .i64 N.n, .int .i64 N.s, .int .i64 N.t, .slice A N.arcs.length c], true⟩) (some ⟨b1, 0, none⟩) = some (.int .i64 N.n) := rd_box _ _ _ 0 _ rfl
  have k1 : rd (put G b1 ⟨[.int .i64 N.n, .int .i64 N.s, .int .i64 N.t, .slice A N.arcs.length c], true⟩) (some ⟨b1, 1, none⟩) = some (.int .i64 N.s) := rd_box _ _ _ 1 _ rfl
  have k2 : rd (put G b1 ⟨[.int .i64 N.n, .int .i64 N.s, .int .i64 N.t, .slice A N.arcs.length c], true⟩) (some ⟨b1, 2, none⟩) = some (.int .i64 N.t) := rd_box _ _ _ 2 _ rfl
  have k3 : rd (put G b1 ⟨[.int .i64 N.n, .int .i64 N.s, .int .i64 N.t, .slice A N.arcs.length c], true⟩) (some ⟨b1, 3, none⟩) = some (.slice A N.arcs.length c) := rd_box _ _ _ 3 _ rfl
  revert s1 k0 k1 k2 k3
  generalize put G b1 ⟨[.int .i64 N.n, .int .i64 N.s, .int .i64 N.t, .slice A N.arcs.length c], true⟩ = G1
  intro s1 k0 k1 k2 k3
  simp (maxSteps := 300000) (disch := omega) only [gs, gs2, gs3, ↓reduceIte, Nat.reduceEqDiff, Nat.mul_one, Nat.add_zero, Nat.zero_add, Nat.zero_mul, Int.toNat_natCast, Int.reduceToNat, Nat.reduceMul, Nat.reduceAdd, decide_true, decide_false, Bool.not_true, Bool.not_false, true_and, and_true, List.map_cons, List.map_nil, List.nil_append, List.cons_append, List.append_nil, Option.map_some, Option.bind_some, List.getElem?_cons_zero, List.getElem?_cons_succ, Bool.false_eq_true, not_true_eq_false, not_false_eq_true, List.contains_cons, List.contains_nil, Nat.reduceBEq, Bool.true_or, Bool.false_or, Bool.or_true, List.set_cons_zero, List.set_cons_succ, List.length_cons, List.length_nil, isLd, Bool.true_and, Bool.false_and, Bool.and_true, Bool.and_false, k0, k1, k2, k3]
  refine ⟨N.arcs.length, N.arcs.length, rfl, rfl, Nat.le_refl _, by omega, by omega, fun bF hbF => ?_⟩
  have hz : zc [.int .i64 0] N.arcs.length = (List.replicate N.arcs.length (0 : Int)).map I64 := by rw [zc_one, List.map_replicate]; rfl
  rw [hz]
  have hc0 := cap_zero hn
  have hF0 : put G1 bF ⟨(List.replicate N.arcs.length (0 : Int)).map I64, true⟩ bF = some ⟨(List.replicate N.arcs.length (0 : Int)).map I64, true⟩ := put_same _ _ _
  have hS0 : Sub G1 (put G1 bF ⟨(List.replicate N.arcs.length (0 : Int)).map I64, true⟩) := Sub.put hbF _
  revert hF0 hS0
  generalize put G1 bF ⟨(List.replicate N.arcs.length (0 : Int)).map I64, true⟩ = G2
  intro hF0 hS0
  have hI0 := blk_ints hF0
  have hlr : (List.replicate N.arcs.length (0 : Int)).length = N.arcs.length := by simp
  have f0 := rd_sub hS0 k0
  have f1 := rd_sub hS0 k1
  have f2 := rd_sub hS0 k2
  have f3 := rd_sub hS0 k3
  simp (maxSteps := 300000) (disch := omega) only [gs, gs2, gs3, ↓reduceIte, Nat.reduceEqDiff, Nat.mul_one, Nat.add_zero, Nat.zero_add, Nat.zero_mul, Int.toNat_natCast, Int.reduceToNat, Nat.reduceMul, Nat.reduceAdd, decide_true, decide_false, Bool.not_true, Bool.not_false, true_and, and_true, List.map_cons, List.map_nil, List.nil_append, List.cons_append, List.append_nil, Option.map_some, Option.bind_some, List.getElem?_cons_zero, List.getElem?_cons_succ, Bool.false_eq_true, not_true_eq_false, not_false_eq_true, List.contains_cons, List.contains_nil, Nat.reduceBEq, Bool.true_or, Bool.false_or, Bool.or_true, List.set_cons_zero, List.set_cons_succ, List.length_cons, List.length_nil, isLd, Bool.true_and, Bool.false_and, Bool.and_true, Bool.and_false, f0, f1, f2, f3]
  rw [show Value.slice (some ⟨bF, 0, none⟩) N.arcs.length N.arcs.length = .slice (some ⟨bF, 0, none⟩) (List.replicate N.arcs.length (0 : Int)).length (List.replicate N.arcs.length (0 : Int)).length by rw [hlr]]
  refine impl_marked_ok (N := N) ((h.sub s1).sub hS0) hI0 hn hc0 fun G3 bR Ao co hbR hN => ?_
  have hL := LG.of (N := N) hS0 hbF hF0 hbR hN
  rw [hlr]
  simp (maxSteps := 300000) (disch := omega) only [gs, gs2, gs3, ↓reduceIte, Nat.reduceEqDiff, Nat.mul_one, Nat.add_zero, Nat.zero_add, Nat.zero_mul, Int.toNat_natCast, Int.reduceToNat, Nat.reduceMul, Nat.reduceAdd, decide_true, decide_false, Bool.not_true, Bool.not_false, true_and, and_true, List.map_cons, List.map_nil, List.nil_append, List.cons_append, List.append_nil, Option.map_some, Option.bind_some, List.getElem?_cons_zero, List.getElem?_cons_succ, Bool.false_eq_true, not_true_eq_false, not_false_eq_true, List.contains_cons, List.contains_nil, Nat.reduceBEq, Bool.true_or, Bool.false_or, Bool.or_true, List.set_cons_zero, List.set_cons_succ, List.length_cons, List.length_nil, isLd, Bool.true_and, Bool.false_and, Bool.and_true, Bool.and_false]
  refine gLoop_intro (fun m T G' => ∃ (fl : List Int) (bR : Nat) (Ao : Option Addr) (co : Nat), T 1 = .pointer (some ⟨b1, 0, none⟩) ∧ T 4 = .slice (some ⟨bF, 0, none⟩) N.arcs.length N.arcs.length ∧ T 5 = .slice Ao (reach N.arcs fl N.n.toNat N.s).q.length co ∧ T 6 = .slice (some ⟨bR, 0, none⟩) N.n.toNat N.n.toNat ∧
    m = left N.arcs N.t fl ∧ Cap N.arcs fl ∧ (∀ fl', Great N.arcs N.n.toNat N.s N.t fl fl' → Great N.arcs N.n.toNat N.s N.t (List.replicate N.arcs.length 0) fl') ∧ LG G1 G' N bF bR Ao co fl)
    (left N.arcs N.t (List.replicate N.arcs.length 0)) ⟨_, bR, Ao, co, by simp (maxSteps := 300000) (disch := omega) only [gs, gs2, gs3, ↓reduceIte, Nat.reduceEqDiff, Nat.mul_one, Nat.add_zero, Nat.zero_add, Nat.zero_mul, Int.toNat_natCast, Int.reduceToNat, Nat.reduceMul, Nat.reduceAdd, decide_true, decide_false, Bool.not_true, Bool.not_false, true_and, and_true, List.map_cons, List.map_nil, List.nil_append, List.cons_append, List.append_nil, Option.map_some, Option.bind_some, List.getElem?_cons_zero, List.getElem?_cons_succ, Bool.false_eq_true, not_true_eq_false, not_false_eq_true, List.contains_cons, List.contains_nil, Nat.reduceBEq, Bool.true_or, Bool.false_or, Bool.or_true, List.set_cons_zero, List.set_cons_succ, List.length_cons, List.length_nil, isLd, Bool.true_and, Bool.false_and, Bool.and_true, Bool.and_false], by simp (maxSteps := 300000) (disch := omega) only [gs, gs2, gs3, ↓reduceIte, Nat.reduceEqDiff, Nat.mul_one, Nat.add_zero, Nat.zero_add, Nat.zero_mul, Int.toNat_natCast, Int.reduceToNat, Nat.reduceMul, Nat.reduceAdd, decide_true, decide_false, Bool.not_true, Bool.not_false, true_and, and_true, List.map_cons, List.map_nil, List.nil_append, List.cons_append, List.append_nil, Option.map_some, Option.bind_some, List.getElem?_cons_zero, List.getElem?_cons_succ, Bool.false_eq_true, not_true_eq_false, not_false_eq_true, List.contains_cons, List.contains_nil, Nat.reduceBEq, Bool.true_or, Bool.false_or, Bool.or_true, List.set_cons_zero, List.set_cons_succ, List.length_cons, List.length_nil, isLd, Bool.true_and, Bool.false_and, Bool.and_true, Bool.and_false], by simp (maxSteps := 300000) (disch := omega) only [gs, gs2, gs3, ↓reduceIte, Nat.reduceEqDiff, Nat.mul_one, Nat.add_zero, Nat.zero_add, Nat.zero_mul, Int.toNat_natCast, Int.reduceToNat, Nat.reduceMul, Nat.reduceAdd, decide_true, decide_false, Bool.not_true, Bool.not_false, true_and, and_true, List.map_cons, List.map_nil, List.nil_append, List.cons_append, List.append_nil, Option.map_some, Option.bind_some, List.getElem?_cons_zero, List.getElem?_cons_succ, Bool.false_eq_true, not_true_eq_false, not_false_eq_true, List.contains_cons, List.contains_nil, Nat.reduceBEq, Bool.true_or, Bool.false_or, Bool.or_true, List.set_cons_zero, List.set_cons_succ, List.length_cons, List.length_nil, isLd, Bool.true_and, Bool.false_and, Bool.and_true, Bool.and_false], by simp (maxSteps := 300000) (disch := omega) only [gs, gs2, gs3, ↓reduceIte, Nat.reduceEqDiff, Nat.mul_one, Nat.add_zero, Nat.zero_add, Nat.zero_mul, Int.toNat_natCast, Int.reduceToNat, Nat.reduceMul, Nat.reduceAdd, decide_true, decide_false, Bool.not_true, Bool.not_false, true_and, and_true, List.map_cons, List.map_nil, List.nil_append, List.cons_append, List.append_nil, Option.map_some, Option.bind_some, List.getElem?_cons_zero, List.getElem?_cons_succ, Bool.false_eq_true, not_true_eq_false, not_false_eq_true, List.contains_cons, List.contains_nil, Nat.reduceBEq, Bool.true_or, Bool.false_or, Bool.or_true, List.set_cons_zero, List.set_cons_succ, List.length_cons, List.length_nil, isLd, Bool.true_and, Bool.false_and, Bool.and_true, Bool.and_false], rfl, hc0, fun _ x => x, hL⟩ ?_
  clear hL hN f0 f1 f2 f3 hI0 hF0 hS0 hz
  rintro m T G' ⟨fl, bR, Ao, co, e1, e4, e5, e6, rfl, hc, hgr, hL⟩
  have f0 := rd_sub hL.sub k0
  have f1 := rd_sub hL.sub k1
  have f2 := rd_sub hL.sub k2
  have f3 := rd_sub hL.sub k3
  have hfl := hc.1
  have hrt : rd G' (some ⟨bR, N.t.toNat, none⟩) = some (.int .i64 (fromF N.s (reach N.arcs fl N.n.toNat N.s) N.t)) := by
    simp only [rd, hL.r, Option.bind_some]
    have := fcells_get (n := N.n.toNat) (b := fromF N.s (reach N.arcs fl N.n.toNat N.s)) (rest := []) (v := N.t) (by omega) (by omega)
    rw [List.append_nil] at this; exact this
  have hft : fromF N.s (reach N.arcs fl N.n.toNat N.s) N.t = (reach N.arcs fl N.n.toNat N.s).b N.t := if_neg (fun x => n4 x.symm)
  rw [hft] at hrt
  simp (maxSteps := 300000) (disch := omega) only [gs, gs2, gs3, ↓reduceIte, Nat.reduceEqDiff, Nat.mul_one, Nat.add_zero, Nat.zero_add, Nat.zero_mul, Int.toNat_natCast, Int.reduceToNat, Nat.reduceMul, Nat.reduceAdd, decide_true, decide_false, Bool.not_true, Bool.not_false, true_and, and_true, List.map_cons, List.map_nil, List.nil_append, List.cons_append, List.append_nil, Option.map_some, Option.bind_some, List.getElem?_cons_zero, List.getElem?_cons_succ, Bool.false_eq_true, not_true_eq_false, not_false_eq_true, List.contains_cons, List.contains_nil, Nat.reduceBEq, Bool.true_or, Bool.false_or, Bool.or_true, List.set_cons_zero, List.set_cons_succ, List.length_cons, List.length_nil, isLd, Bool.true_and, Bool.false_and, Bool.and_true, Bool.and_false, e1, e4, e5, e6, f2, hrt]
  by_cases hb : 0 ≤ (reach N.arcs fl N.n.toNat N.s).b N.t
  · simp (maxSteps := 300000) (disch := omega) only [gs, gs2, gs3, ↓reduceIte, Nat.reduceEqDiff, Nat.mul_one, Nat.add_zero, Nat.zero_add, Nat.zero_mul, Int.toNat_natCast, Int.reduceToNat, Nat.reduceMul, Nat.reduceAdd, decide_true, decide_false, Bool.not_true, Bool.not_false, true_and, and_true, List.map_cons, List.map_nil, List.nil_append, List.cons_append, List.append_nil, Option.map_some, Option.bind_some, List.getElem?_cons_zero, List.getElem?_cons_succ, Bool.false_eq_true, not_true_eq_false, not_false_eq_true, List.contains_cons, List.contains_nil, Nat.reduceBEq, Bool.true_or, Bool.false_or, Bool.or_true, List.set_cons_zero, List.set_cons_succ, List.length_cons, List.length_nil, isLd, Bool.true_and, Bool.false_and, Bool.and_true, Bool.and_false, hb, e1, e4, e5, e6, f0, f1, f2, f3]
    have hne := hL.neR
    have hH := hL.sub.in_del hL.nF
    rw [show Value.slice (some ⟨bF, 0, none⟩) N.arcs.length N.arcs.length = .slice (some ⟨bF, 0, none⟩) fl.length fl.length by rw [hfl]]
    refine impl_send_ok (N := N) (C := some ⟨bR, 0, none⟩) (Sub.del G' bF) (del_none _ _) hL.f ((h.sub s1).sub hH) (fun v h0 h1 => ?_) (by simp [sn]) hn hc hb fun G3 hS3 hF3 => ?_
    · rw [pa_mk, Nat.zero_add]
      simp only [rd, del_ne _ hne, hL.r, Option.bind_some]
      have := fcells_get (n := N.n.toNat) (b := fromF N.s (reach N.arcs fl N.n.toNat N.s)) (rest := []) (v := v) (by omega) (by omega)
      rw [List.append_nil] at this; exact this
    obtain ⟨hc', hlt⟩ := left_step hn hc hb
    have hlen' := hc'.1
    generalize hfl2 : stepF N.arcs N.n.toNat N.s N.t fl = fl2 at *
    have hS3' := hH.trans hS3
    have f0 := rd_sub hS3' k0
    have f1 := rd_sub hS3' k1
    have f2 := rd_sub hS3' k2
    have f3 := rd_sub hS3' k3
    simp (maxSteps := 300000) (disch := omega) only [gs, gs2, gs3, ↓reduceIte, Nat.reduceEqDiff, Nat.mul_one, Nat.add_zero, Nat.zero_add, Nat.zero_mul, Int.toNat_natCast, Int.reduceToNat, Nat.reduceMul, Nat.reduceAdd, decide_true, decide_false, Bool.not_true, Bool.not_false, true_and, and_true, List.map_cons, List.map_nil, List.nil_append, List.cons_append, List.append_nil, Option.map_some, Option.bind_some, List.getElem?_cons_zero, List.getElem?_cons_succ, Bool.false_eq_true, not_true_eq_false, not_false_eq_true, List.contains_cons, List.contains_nil, Nat.reduceBEq, Bool.true_or, Bool.false_or, Bool.or_true, List.set_cons_zero, List.set_cons_succ, List.length_cons, List.length_nil, isLd, Bool.true_and, Bool.false_and, Bool.and_true, Bool.and_false, e1, e4, e5, e6, f0, f1, f2, f3]
    rw [show Value.slice (some ⟨bF, 0, none⟩) N.arcs.length N.arcs.length = .slice (some ⟨bF, 0, none⟩) fl2.length fl2.length by rw [hlen']]
    refine impl_marked_ok (N := N) ((h.sub s1).sub hS3') (blk_ints hF3) hn hc' fun G4 bR2 Ao2 co2 hbR2 hN2 => ?_
    have hL2 := LG.of (N := N) hS3' hL.nF hF3 hbR2 hN2
    simp (maxSteps := 300000) (disch := omega) only [gs, gs2, gs3, ↓reduceIte, Nat.reduceEqDiff, Nat.mul_one, Nat.add_zero, Nat.zero_add, Nat.zero_mul, Int.toNat_natCast, Int.reduceToNat, Nat.reduceMul, Nat.reduceAdd, decide_true, decide_false, Bool.not_true, Bool.not_false, true_and, and_true, List.map_cons, List.map_nil, List.nil_append, List.cons_append, List.append_nil, Option.map_some, Option.bind_some, List.getElem?_cons_zero, List.getElem?_cons_succ, Bool.false_eq_true, not_true_eq_false, not_false_eq_true, List.contains_cons, List.contains_nil, Nat.reduceBEq, Bool.true_or, Bool.false_or, Bool.or_true, List.set_cons_zero, List.set_cons_succ, List.length_cons, List.length_nil, isLd, Bool.true_and, Bool.false_and, Bool.and_true, Bool.and_false, e1, e4, e5, e6]
    exact ⟨_, hlt, G4, Sub.refl _, fl2, bR2, Ao2, co2, by rw [hfl], rfl, rfl, rfl, hc', fun fl' hg => hgr fl' (.step hb (by rw [hfl2]; exact hg)), hL2⟩
  · simp (maxSteps := 300000) (disch := omega) only [gs, gs2, gs3, ↓reduceIte, Nat.reduceEqDiff, Nat.mul_one, Nat.add_zero, Nat.zero_add, Nat.zero_mul, Int.toNat_natCast, Int.reduceToNat, Nat.reduceMul, Nat.reduceAdd, decide_true, decide_false, Bool.not_true, Bool.not_false, true_and, and_true, List.map_cons, List.map_nil, List.nil_append, List.cons_append, List.append_nil, Option.map_some, Option.bind_some, List.getElem?_cons_zero, List.getElem?_cons_succ, Bool.false_eq_true, not_true_eq_false, not_false_eq_true, List.contains_cons, List.contains_nil, Nat.reduceBEq, Bool.true_or, Bool.false_or, Bool.or_true, List.set_cons_zero, List.set_cons_succ, List.length_cons, List.length_nil, isLd, Bool.true_and, Bool.false_and, Bool.and_true, Bool.and_false, hb, e1, e4, e5, e6]
    have hG := hgr fl (.done (by omega))
    have hV := great_eq hG
    subst hV
    have hI := BI.reach (es := N.arcs) (fl := greatV N) (n := N.n.toNat) (s := N.s) (by omega)
    have hql := hI.len
    have hq0 := hI.hd.2
    rcases hL.own with ⟨_, _, h0, _⟩ | ⟨bO, r, rfl, hbO, hlO, hcO, hnO⟩
    · omega
    refine slices_Sort_ok (Sub.del G' bO) (del_none _ _) hbO (by omega) hI.inj fun G5 ys hS5 hO5 hsm hri => ?_
    have hys := side_sorted hn hsm hri
    subst hys
    have hne : bF ≠ bO := fun x => hL.ne _ rfl x.symm
    simp (maxSteps := 300000) (disch := omega) only [gs, gs2, gs3, ↓reduceIte, Nat.reduceEqDiff, Nat.mul_one, Nat.add_zero, Nat.zero_add, Nat.zero_mul, Int.toNat_natCast, Int.reduceToNat, Nat.reduceMul, Nat.reduceAdd, decide_true, decide_false, Bool.not_true, Bool.not_false, true_and, and_true, List.map_cons, List.map_nil, List.nil_append, List.cons_append, List.append_nil, Option.map_some, Option.bind_some, List.getElem?_cons_zero, List.getElem?_cons_succ, Bool.false_eq_true, not_true_eq_false, not_false_eq_true, List.contains_cons, List.contains_nil, Nat.reduceBEq, Bool.true_or, Bool.false_or, Bool.or_true, List.set_cons_zero, List.set_cons_succ, List.length_cons, List.length_nil, isLd, Bool.true_and, Bool.false_and, Bool.and_true, Bool.and_false, e1, e4, e5, e6]
    have hsl := hsm.len
    have hsub : Sub G G5 := (s1.trans (hL.sub.in_del (hL.off _ rfl))).trans hS5
    have := hk G5 bF bO co r (s1.none hL.nF) (s1.none (hL.off _ rfl)) hsub (hS5 _ _ (by rw [del_ne _ hne]; exact hL.f)) hO5 (by rw [List.length_append, List.length_map] at hcO; omega) hne
    rw [hsl] at this
    exact ⟨G5, Sub.refl _, this⟩
theorem rm_bd {N : Net} (hn : NetOk N) {fl : List Int} (hc : Cap N.arcs fl) (a b : Int) : 0 ≤ rm N.arcs fl a b ∧ rm N.arcs fl a b ≤ 2000000 := by
  have p1 : 0 ≤ arcI N.arcs a b → 0 ≤ (N.arcs.getD (arcI N.arcs a b).toNat z3).2.2 - fl.getD (arcI N.arcs a b).toNat 0 ∧ (N.arcs.getD (arcI N.arcs a b).toNat z3).2.2 - fl.getD (arcI N.arcs a b).toNat 0 ≤ 1000000 := fun h => by have := cap_bd hn hc (arcI_lt _ _ _ h).1; omega
  have p2 : 0 ≤ arcI N.arcs b a → 0 ≤ fl.getD (arcI N.arcs b a).toNat 0 ∧ fl.getD (arcI N.arcs b a).toNat 0 ≤ 1000000 := fun h => by have := cap_bd hn hc (arcI_lt _ _ _ h).1; omega
  unfold rm
  by_cases q1 : 0 ≤ arcI N.arcs a b
  · have := p1 q1
    by_cases q2 : 0 ≤ arcI N.arcs b a
    · have := p2 q2
      rw [if_pos q1, if_pos q2]; omega
    · rw [if_pos q1, if_neg q2]; omega
  · by_cases q2 : 0 ≤ arcI N.arcs b a
    · have := p2 q2
      rw [if_neg q1, if_pos q2]; omega
    · rw [if_neg q1, if_neg q2]; omega
/-- a greater start changes nothing. -/
theorem minP_start {N : Net} (hn : NetOk N) {fl : List Int} (hc : Cap N.arcs fl) {b : Int → Int} {f : Nat} {v : Int} (hv : v ≠ N.s) {x : Int} (hx : 2000000 ≤ x) : minP N.arcs fl b N.s (f + 1) v x = minP N.arcs fl b N.s (f + 1) v 2000000 := by
  have := rm_bd hn hc (b v) v
  rw [minP, minP, if_neg hv, if_neg hv]
  congr 1
  split <;> split <;> omega
theorem rd_away {G G' : GH} {A : Option Addr} {k b : Nat} {v : Value} (h : rd G (pa A k) = some v) (ne : ∀ a, A = some a → a.block ≠ b) (he : ∀ x, x ≠ b → G' x = G x) : rd G' (pa A k) = some v := by
  cases hA : A with
  | none => rw [hA] at h; cases h
  | some a =>
    have := ne a hA
    subst hA
    obtain ⟨ab, ao, sp⟩ := a
    cases sp with
    | none =>
      rw [pa_mk] at h ⊢
      simp only [rd] at h ⊢
      rw [he _ this]; exact h
    | some x =>
      by_cases hk : k = 0
      · exact absurd h (by simp [pa, rd, Addr.add, hk])
      · have e : pa (some ⟨ab, ao, some x⟩) k = some ⟨ab, ao + k, none⟩ := by simp [pa, Addr.add, hk]
        rw [e] at h ⊢
        simp only [rd] at h ⊢
        rw [he _ this]; exact h
theorem spec_l19Greatest_ok {G : GH} {q : Option Addr} {N : Net} {A : Option Addr} {c : Nat} (h : NetP G q N A c) (hn : NetOk N) {K : Value → GH → Prop}
    (hk : ∀ G' bF, G bF = none → Sub G G' → G' bF = some ⟨(greatV N).map I64, true⟩ → K (.slice (some ⟨bF, 0, none⟩) N.arcs.length N.arcs.length) G') : GC Try.prog 186 [.pointer q] G K := by
  refine c_spec_l19Greatest_i (by simp) ?_
  have n1 := hn.1
  have n2 := hn.2.1
  have n3 := hn.2.2.1
  have n4 := hn.2.2.2.1
  have n5 := hn.2.2.2.2.2
  have hq := rd_some h.f0
  have k0 := h.f0
  have k1 := h.f1
  have k2 := h.f2
  have k3 := h.f3
  simp (maxSteps := 300000) (disch := omega) only [gs, gs2, gs3, ↓reduceIte, Nat.reduceEqDiff, Nat.mul_one, Nat.add_zero, Nat.zero_add, Nat.zero_mul, Int.toNat_natCast, Int.reduceToNat, Nat.reduceMul, Nat.reduceAdd, decide_true, decide_false, Bool.not_true, Bool.not_false, true_and, and_true, List.map_cons, List.map_nil, List.nil_append, List.cons_append, List.append_nil, Option.map_some, Option.bind_some, List.getElem?_cons_zero, List.getElem?_cons_succ, Bool.false_eq_true, not_true_eq_false, not_false_eq_true, List.contains_cons, List.contains_nil, Nat.reduceBEq, Bool.true_or, Bool.false_or, Bool.or_true, List.set_cons_zero, List.set_cons_succ, List.length_cons, List.length_nil, isLd, Bool.true_and, Bool.false_and, Bool.and_true, Bool.and_false, k0, k1, k2, k3]
  refine ⟨N.arcs.length, N.arcs.length, rfl, rfl, Nat.le_refl _, by omega, by omega, fun bF hbF => ?_⟩
  have hz : zc [.int .i64 0] N.arcs.length = (List.replicate N.arcs.length (0 : Int)).map I64 := by rw [zc_one, List.map_replicate]; rfl
  rw [hz]
  have hc0 := cap_zero hn
  have hF0 : put G bF ⟨(List.replicate N.arcs.length (0 : Int)).map I64, true⟩ bF = some ⟨(List.replicate N.arcs.length (0 : Int)).map I64, true⟩ := put_same _ _ _
  have hS0 : Sub G (put G bF ⟨(List.replicate N.arcs.length (0 : Int)).map I64, true⟩) := Sub.put hbF _
  simp (maxSteps := 300000) (disch := omega) only [gs, gs2, gs3, ↓reduceIte, Nat.reduceEqDiff, Nat.mul_one, Nat.add_zero, Nat.zero_add, Nat.zero_mul, Int.toNat_natCast, Int.reduceToNat, Nat.reduceMul, Nat.reduceAdd, decide_true, decide_false, Bool.not_true, Bool.not_false, true_and, and_true, List.map_cons, List.map_nil, List.nil_append, List.cons_append, List.append_nil, Option.map_some, Option.bind_some, List.getElem?_cons_zero, List.getElem?_cons_succ, Bool.false_eq_true, not_true_eq_false, not_false_eq_true, List.contains_cons, List.contains_nil, Nat.reduceBEq, Bool.true_or, Bool.false_or, Bool.or_true, List.set_cons_zero, List.set_cons_succ, List.length_cons, List.length_nil, isLd, Bool.true_and, Bool.false_and, Bool.and_true, Bool.and_false]
  refine gLoop_intro (fun m T G' => ∃ (fl : List Int), T 0 = .pointer q ∧ T 3 = .slice (some ⟨bF, 0, none⟩) N.arcs.length N.arcs.length ∧
    m = left N.arcs N.t fl ∧ Cap N.arcs fl ∧ (∀ fl', Great N.arcs N.n.toNat N.s N.t fl fl' → Great N.arcs N.n.toNat N.s N.t (List.replicate N.arcs.length 0) fl') ∧ Sub G G' ∧ G' bF = some ⟨fl.map I64, true⟩)
    (left N.arcs N.t (List.replicate N.arcs.length 0)) ⟨_, by simp (maxSteps := 300000) (disch := omega) only [gs, gs2, gs3, ↓reduceIte, Nat.reduceEqDiff, Nat.mul_one, Nat.add_zero, Nat.zero_add, Nat.zero_mul, Int.toNat_natCast, Int.reduceToNat, Nat.reduceMul, Nat.reduceAdd, decide_true, decide_false, Bool.not_true, Bool.not_false, true_and, and_true, List.map_cons, List.map_nil, List.nil_append, List.cons_append, List.append_nil, Option.map_some, Option.bind_some, List.getElem?_cons_zero, List.getElem?_cons_succ, Bool.false_eq_true, not_true_eq_false, not_false_eq_true, List.contains_cons, List.contains_nil, Nat.reduceBEq, Bool.true_or, Bool.false_or, Bool.or_true, List.set_cons_zero, List.set_cons_succ, List.length_cons, List.length_nil, isLd, Bool.true_and, Bool.false_and, Bool.and_true, Bool.and_false], by simp (maxSteps := 300000) (disch := omega) only [gs, gs2, gs3, ↓reduceIte, Nat.reduceEqDiff, Nat.mul_one, Nat.add_zero, Nat.zero_add, Nat.zero_mul, Int.toNat_natCast, Int.reduceToNat, Nat.reduceMul, Nat.reduceAdd, decide_true, decide_false, Bool.not_true, Bool.not_false, true_and, and_true, List.map_cons, List.map_nil, List.nil_append, List.cons_append, List.append_nil, Option.map_some, Option.bind_some, List.getElem?_cons_zero, List.getElem?_cons_succ, Bool.false_eq_true, not_true_eq_false, not_false_eq_true, List.contains_cons, List.contains_nil, Nat.reduceBEq, Bool.true_or, Bool.false_or, Bool.or_true, List.set_cons_zero, List.set_cons_succ, List.length_cons, List.length_nil, isLd, Bool.true_and, Bool.false_and, Bool.and_true, Bool.and_false], rfl, hc0, fun _ x => x, hS0, hF0⟩ ?_
  clear hF0 hS0 hz
  rintro m T G' ⟨fl, e0, e3, rfl, hc, hgr, hS, hF⟩
  have hfl := hc.1
  simp (maxSteps := 300000) (disch := omega) only [gs, gs2, gs3, ↓reduceIte, Nat.reduceEqDiff, Nat.mul_one, Nat.add_zero, Nat.zero_add, Nat.zero_mul, Int.toNat_natCast, Int.reduceToNat, Nat.reduceMul, Nat.reduceAdd, decide_true, decide_false, Bool.not_true, Bool.not_false, true_and, and_true, List.map_cons, List.map_nil, List.nil_append, List.cons_append, List.append_nil, Option.map_some, Option.bind_some, List.getElem?_cons_zero, List.getElem?_cons_succ, Bool.false_eq_true, not_true_eq_false, not_false_eq_true, List.contains_cons, List.contains_nil, Nat.reduceBEq, Bool.true_or, Bool.false_or, Bool.or_true, List.set_cons_zero, List.set_cons_succ, List.length_cons, List.length_nil, isLd, Bool.true_and, Bool.false_and, Bool.and_true, Bool.and_false, e0, e3]
  rw [show Value.slice (some ⟨bF, 0, none⟩) N.arcs.length N.arcs.length = .slice (some ⟨bF, 0, none⟩) fl.length fl.length by rw [hfl]]
  rw [show Value.slice (some ⟨bF, 0, none⟩) N.arcs.length N.arcs.length = .slice (some ⟨bF, 0, none⟩) fl.length fl.length by rw [hfl]] at e3
  refine spec_l19Reach_ok (h.sub hS) (blk_ints hF) hn hc fun G2 Aw cw hN => ?_
  have hS2 := hS.trans hN.sub
  have f0 := rd_sub hS2 k0
  have f1 := rd_sub hS2 k1
  have f2 := rd_sub hS2 k2
  have f3 := rd_sub hS2 k3
  have hsw := hN.sn (by omega)
  have hrt := hN.rdF (v := N.t) (by omega) (by omega)
  simp (maxSteps := 300000) (disch := omega) only [gs, gs2, gs3, ↓reduceIte, Nat.reduceEqDiff, Nat.mul_one, Nat.add_zero, Nat.zero_add, Nat.zero_mul, Int.toNat_natCast, Int.reduceToNat, Nat.reduceMul, Nat.reduceAdd, decide_true, decide_false, Bool.not_true, Bool.not_false, true_and, and_true, List.map_cons, List.map_nil, List.nil_append, List.cons_append, List.append_nil, Option.map_some, Option.bind_some, List.getElem?_cons_zero, List.getElem?_cons_succ, Bool.false_eq_true, not_true_eq_false, not_false_eq_true, List.contains_cons, List.contains_nil, Nat.reduceBEq, Bool.true_or, Bool.false_or, Bool.or_true, List.set_cons_zero, List.set_cons_succ, List.length_cons, List.length_nil, isLd, Bool.true_and, Bool.false_and, Bool.and_true, Bool.and_false, e0, e3, f0, f1, f2, f3, hrt]
  by_cases hb : (reach N.arcs fl N.n.toNat N.s).b N.t < 0
  · simp (maxSteps := 300000) (disch := omega) only [gs, gs2, gs3, ↓reduceIte, Nat.reduceEqDiff, Nat.mul_one, Nat.add_zero, Nat.zero_add, Nat.zero_mul, Int.toNat_natCast, Int.reduceToNat, Nat.reduceMul, Nat.reduceAdd, decide_true, decide_false, Bool.not_true, Bool.not_false, true_and, and_true, List.map_cons, List.map_nil, List.nil_append, List.cons_append, List.append_nil, Option.map_some, Option.bind_some, List.getElem?_cons_zero, List.getElem?_cons_succ, Bool.false_eq_true, not_true_eq_false, not_false_eq_true, List.contains_cons, List.contains_nil, Nat.reduceBEq, Bool.true_or, Bool.false_or, Bool.or_true, List.set_cons_zero, List.set_cons_succ, List.length_cons, List.length_nil, isLd, Bool.true_and, Bool.false_and, Bool.and_true, Bool.and_false, hb, e0, e3]
    have hV := great_eq (hgr fl (.done hb))
    subst hV
    rw [hfl]
    exact hk _ bF hbF hS2 (hN.sub _ _ hF)
  · simp (maxSteps := 300000) (disch := omega) only [gs, gs2, gs3, ↓reduceIte, Nat.reduceEqDiff, Nat.mul_one, Nat.add_zero, Nat.zero_add, Nat.zero_mul, Int.toNat_natCast, Int.reduceToNat, Nat.reduceMul, Nat.reduceAdd, decide_true, decide_false, Bool.not_true, Bool.not_false, true_and, and_true, List.map_cons, List.map_nil, List.nil_append, List.cons_append, List.append_nil, Option.map_some, Option.bind_some, List.getElem?_cons_zero, List.getElem?_cons_succ, Bool.false_eq_true, not_true_eq_false, not_false_eq_true, List.contains_cons, List.contains_nil, Nat.reduceBEq, Bool.true_or, Bool.false_or, Bool.or_true, List.set_cons_zero, List.set_cons_succ, List.length_cons, List.length_nil, isLd, Bool.true_and, Bool.false_and, Bool.and_true, Bool.and_false, hb, e0, e3, f0, f1, f2, f3]
    obtain ⟨j0, hj0, ej0, hjn, ⟨hpos, hle⟩, hPI⟩ := way_start hn hc (by omega)
    have hI := BI.reach (es := N.arcs) (fl := fl) (n := N.n.toNat) (s := N.s) (by omega)
    have hstart : minP N.arcs fl (reach N.arcs fl N.n.toNat N.s).b N.s N.n.toNat N.t 1000000000000 = minP N.arcs fl (reach N.arcs fl N.n.toNat N.s).b N.s N.n.toNat N.t 2000000 := by
      obtain ⟨f, hf⟩ : ∃ f, N.n.toNat = f + 1 := ⟨N.n.toNat - 1, by omega⟩
      rw [hf]; exact minP_start hn hc (fun x => n4 x.symm) (by omega)
    obtain ⟨hc', hlt⟩ := left_step hn hc (by omega)
    have hstep : stepF N.arcs N.n.toNat N.s N.t fl = pushP N.arcs (reach N.arcs fl N.n.toNat N.s).b N.s (minP N.arcs fl (reach N.arcs fl N.n.toNat N.s).b N.s N.n.toNat N.t 2000000) N.n.toNat N.t fl := rfl
    have hgr' : ∀ fl', Great N.arcs N.n.toNat N.s N.t (stepF N.arcs N.n.toNat N.s N.t fl) fl' → Great N.arcs N.n.toNat N.s N.t (List.replicate N.arcs.length 0) fl' := fun fl' hg => hgr fl' (.step (by omega) hg)
    generalize hfl2 : stepF N.arcs N.n.toNat N.s N.t fl = fl2 at *
    have hRd : ∀ v : Int, 0 ≤ v → v < N.n → rd G2 (pa Aw v.toNat) = some (.int .i64 ((reach N.arcs fl N.n.toNat N.s).b v)) := fun v h0 h1 => hN.rdF h0 (by omega)
    have hF2 := hN.sub _ _ hF
    have nbW : ∀ a, Aw = some a → a.block ≠ bF := fun a ha x => by have := hN.off a ha; rw [x, hF] at this; cases this
    generalize hst : reach N.arcs fl N.n.toNat N.s = st at *
    generalize hamt : minP N.arcs fl st.b N.s N.n.toNat N.t 2000000 = amt at *
    refine gLoop_intro (fun m T G3 => ∃ (j f : Nat) (acc : Int), T 0 = .pointer q ∧ T 3 = .slice (some ⟨bF, 0, none⟩) fl.length fl.length ∧ T 4 = .slice Aw N.n.toNat cw ∧ T 5 = .int .i64 acc ∧ T 6 = .int .i64 (st.q.getD j 0) ∧ m = j ∧ j < st.q.length ∧ j ≤ f ∧ minP N.arcs fl st.b N.s f (st.q.getD j 0) acc = amt ∧ G3 = G2)
      j0 ⟨j0, N.n.toNat, 1000000000000, by simp (maxSteps := 300000) (disch := omega) only [gs, gs2, gs3, ↓reduceIte, Nat.reduceEqDiff, Nat.mul_one, Nat.add_zero, Nat.zero_add, Nat.zero_mul, Int.toNat_natCast, Int.reduceToNat, Nat.reduceMul, Nat.reduceAdd, decide_true, decide_false, Bool.not_true, Bool.not_false, true_and, and_true, List.map_cons, List.map_nil, List.nil_append, List.cons_append, List.append_nil, Option.map_some, Option.bind_some, List.getElem?_cons_zero, List.getElem?_cons_succ, Bool.false_eq_true, not_true_eq_false, not_false_eq_true, List.contains_cons, List.contains_nil, Nat.reduceBEq, Bool.true_or, Bool.false_or, Bool.or_true, List.set_cons_zero, List.set_cons_succ, List.length_cons, List.length_nil, isLd, Bool.true_and, Bool.false_and, Bool.and_true, Bool.and_false, e0], by simp (maxSteps := 300000) (disch := omega) only [gs, gs2, gs3, ↓reduceIte, Nat.reduceEqDiff, Nat.mul_one, Nat.add_zero, Nat.zero_add, Nat.zero_mul, Int.toNat_natCast, Int.reduceToNat, Nat.reduceMul, Nat.reduceAdd, decide_true, decide_false, Bool.not_true, Bool.not_false, true_and, and_true, List.map_cons, List.map_nil, List.nil_append, List.cons_append, List.append_nil, Option.map_some, Option.bind_some, List.getElem?_cons_zero, List.getElem?_cons_succ, Bool.false_eq_true, not_true_eq_false, not_false_eq_true, List.contains_cons, List.contains_nil, Nat.reduceBEq, Bool.true_or, Bool.false_or, Bool.or_true, List.set_cons_zero, List.set_cons_succ, List.length_cons, List.length_nil, isLd, Bool.true_and, Bool.false_and, Bool.and_true, Bool.and_false, e3], by simp (maxSteps := 300000) (disch := omega) only [gs, gs2, gs3, ↓reduceIte, Nat.reduceEqDiff, Nat.mul_one, Nat.add_zero, Nat.zero_add, Nat.zero_mul, Int.toNat_natCast, Int.reduceToNat, Nat.reduceMul, Nat.reduceAdd, decide_true, decide_false, Bool.not_true, Bool.not_false, true_and, and_true, List.map_cons, List.map_nil, List.nil_append, List.cons_append, List.append_nil, Option.map_some, Option.bind_some, List.getElem?_cons_zero, List.getElem?_cons_succ, Bool.false_eq_true, not_true_eq_false, not_false_eq_true, List.contains_cons, List.contains_nil, Nat.reduceBEq, Bool.true_or, Bool.false_or, Bool.or_true, List.set_cons_zero, List.set_cons_succ, List.length_cons, List.length_nil, isLd, Bool.true_and, Bool.false_and, Bool.and_true, Bool.and_false], by simp (maxSteps := 300000) (disch := omega) only [gs, gs2, gs3, ↓reduceIte, Nat.reduceEqDiff, Nat.mul_one, Nat.add_zero, Nat.zero_add, Nat.zero_mul, Int.toNat_natCast, Int.reduceToNat, Nat.reduceMul, Nat.reduceAdd, decide_true, decide_false, Bool.not_true, Bool.not_false, true_and, and_true, List.map_cons, List.map_nil, List.nil_append, List.cons_append, List.append_nil, Option.map_some, Option.bind_some, List.getElem?_cons_zero, List.getElem?_cons_succ, Bool.false_eq_true, not_true_eq_false, not_false_eq_true, List.contains_cons, List.contains_nil, Nat.reduceBEq, Bool.true_or, Bool.false_or, Bool.or_true, List.set_cons_zero, List.set_cons_succ, List.length_cons, List.length_nil, isLd, Bool.true_and, Bool.false_and, Bool.and_true, Bool.and_false], by simp (maxSteps := 300000) (disch := omega) only [gs, gs2, gs3, ↓reduceIte, Nat.reduceEqDiff, Nat.mul_one, Nat.add_zero, Nat.zero_add, Nat.zero_mul, Int.toNat_natCast, Int.reduceToNat, Nat.reduceMul, Nat.reduceAdd, decide_true, decide_false, Bool.not_true, Bool.not_false, true_and, and_true, List.map_cons, List.map_nil, List.nil_append, List.cons_append, List.append_nil, Option.map_some, Option.bind_some, List.getElem?_cons_zero, List.getElem?_cons_succ, Bool.false_eq_true, not_true_eq_false, not_false_eq_true, List.contains_cons, List.contains_nil, Nat.reduceBEq, Bool.true_or, Bool.false_or, Bool.or_true, List.set_cons_zero, List.set_cons_succ, List.length_cons, List.length_nil, isLd, Bool.true_and, Bool.false_and, Bool.and_true, Bool.and_false] <;> rw [ej0], rfl, hj0, hjn, by rw [ej0, hstart], rfl⟩ ?_
    clear e0 e3
    rintro m T G3 ⟨j, f, acc, e0, e3, e4, e5, e6, rfl, hj, hjf, hmin, rfl⟩
    have hvr := hI.rng (st.q.getD m 0) (mem_getD'.2 ⟨m, hj, rfl⟩)
    simp (maxSteps := 300000) (disch := omega) only [gs, gs2, gs3, ↓reduceIte, Nat.reduceEqDiff, Nat.mul_one, Nat.add_zero, Nat.zero_add, Nat.zero_mul, Int.toNat_natCast, Int.reduceToNat, Nat.reduceMul, Nat.reduceAdd, decide_true, decide_false, Bool.not_true, Bool.not_false, true_and, and_true, List.map_cons, List.map_nil, List.nil_append, List.cons_append, List.append_nil, Option.map_some, Option.bind_some, List.getElem?_cons_zero, List.getElem?_cons_succ, Bool.false_eq_true, not_true_eq_false, not_false_eq_true, List.contains_cons, List.contains_nil, Nat.reduceBEq, Bool.true_or, Bool.false_or, Bool.or_true, List.set_cons_zero, List.set_cons_succ, List.length_cons, List.length_nil, isLd, Bool.true_and, Bool.false_and, Bool.and_true, Bool.and_false, e0, e3, e4, e5, e6, f1]
    by_cases hv : st.q.getD m 0 = N.s
    · simp (maxSteps := 300000) (disch := omega) only [gs, gs2, gs3, ↓reduceIte, Nat.reduceEqDiff, Nat.mul_one, Nat.add_zero, Nat.zero_add, Nat.zero_mul, Int.toNat_natCast, Int.reduceToNat, Nat.reduceMul, Nat.reduceAdd, decide_true, decide_false, Bool.not_true, Bool.not_false, true_and, and_true, List.map_cons, List.map_nil, List.nil_append, List.cons_append, List.append_nil, Option.map_some, Option.bind_some, List.getElem?_cons_zero, List.getElem?_cons_succ, Bool.false_eq_true, not_true_eq_false, not_false_eq_true, List.contains_cons, List.contains_nil, Nat.reduceBEq, Bool.true_or, Bool.false_or, Bool.or_true, List.set_cons_zero, List.set_cons_succ, List.length_cons, List.length_nil, isLd, Bool.true_and, Bool.false_and, Bool.and_true, Bool.and_false, eq_true hv, e0, e3, e4, e5, e6, f1, f2]
      have hacc : acc = amt := by rw [hv, minP_end] at hmin; exact hmin
      subst hacc
      -- the pushes
      refine gLoop_intro (fun m T G4 => ∃ (j f : Nat) (fl' : List Int), T 0 = .pointer q ∧ T 3 = .slice (some ⟨bF, 0, none⟩) N.arcs.length N.arcs.length ∧ T 4 = .slice Aw N.n.toNat cw ∧ T 5 = .int .i64 acc ∧ T 7 = .int .i64 (st.q.getD j 0) ∧ m = j ∧ PI N.arcs fl N.s st acc f j fl' ∧ pushP N.arcs st.b N.s acc f (st.q.getD j 0) fl' = fl2 ∧ Sub (del G3 bF) G4 ∧ G4 bF = some ⟨fl'.map I64, true⟩)
        j0 ⟨j0, N.n.toNat, fl, by simp (maxSteps := 300000) (disch := omega) only [gs, gs2, gs3, ↓reduceIte, Nat.reduceEqDiff, Nat.mul_one, Nat.add_zero, Nat.zero_add, Nat.zero_mul, Int.toNat_natCast, Int.reduceToNat, Nat.reduceMul, Nat.reduceAdd, decide_true, decide_false, Bool.not_true, Bool.not_false, true_and, and_true, List.map_cons, List.map_nil, List.nil_append, List.cons_append, List.append_nil, Option.map_some, Option.bind_some, List.getElem?_cons_zero, List.getElem?_cons_succ, Bool.false_eq_true, not_true_eq_false, not_false_eq_true, List.contains_cons, List.contains_nil, Nat.reduceBEq, Bool.true_or, Bool.false_or, Bool.or_true, List.set_cons_zero, List.set_cons_succ, List.length_cons, List.length_nil, isLd, Bool.true_and, Bool.false_and, Bool.and_true, Bool.and_false, e0], by simp (maxSteps := 300000) (disch := omega) only [gs, gs2, gs3, ↓reduceIte, Nat.reduceEqDiff, Nat.mul_one, Nat.add_zero, Nat.zero_add, Nat.zero_mul, Int.toNat_natCast, Int.reduceToNat, Nat.reduceMul, Nat.reduceAdd, decide_true, decide_false, Bool.not_true, Bool.not_false, true_and, and_true, List.map_cons, List.map_nil, List.nil_append, List.cons_append, List.append_nil, Option.map_some, Option.bind_some, List.getElem?_cons_zero, List.getElem?_cons_succ, Bool.false_eq_true, not_true_eq_false, not_false_eq_true, List.contains_cons, List.contains_nil, Nat.reduceBEq, Bool.true_or, Bool.false_or, Bool.or_true, List.set_cons_zero, List.set_cons_succ, List.length_cons, List.length_nil, isLd, Bool.true_and, Bool.false_and, Bool.and_true, Bool.and_false, e3] <;> rw [hfl], by simp (maxSteps := 300000) (disch := omega) only [gs, gs2, gs3, ↓reduceIte, Nat.reduceEqDiff, Nat.mul_one, Nat.add_zero, Nat.zero_add, Nat.zero_mul, Int.toNat_natCast, Int.reduceToNat, Nat.reduceMul, Nat.reduceAdd, decide_true, decide_false, Bool.not_true, Bool.not_false, true_and, and_true, List.map_cons, List.map_nil, List.nil_append, List.cons_append, List.append_nil, Option.map_some, Option.bind_some, List.getElem?_cons_zero, List.getElem?_cons_succ, Bool.false_eq_true, not_true_eq_false, not_false_eq_true, List.contains_cons, List.contains_nil, Nat.reduceBEq, Bool.true_or, Bool.false_or, Bool.or_true, List.set_cons_zero, List.set_cons_succ, List.length_cons, List.length_nil, isLd, Bool.true_and, Bool.false_and, Bool.and_true, Bool.and_false, e4], by simp (maxSteps := 300000) (disch := omega) only [gs, gs2, gs3, ↓reduceIte, Nat.reduceEqDiff, Nat.mul_one, Nat.add_zero, Nat.zero_add, Nat.zero_mul, Int.toNat_natCast, Int.reduceToNat, Nat.reduceMul, Nat.reduceAdd, decide_true, decide_false, Bool.not_true, Bool.not_false, true_and, and_true, List.map_cons, List.map_nil, List.nil_append, List.cons_append, List.append_nil, Option.map_some, Option.bind_some, List.getElem?_cons_zero, List.getElem?_cons_succ, Bool.false_eq_true, not_true_eq_false, not_false_eq_true, List.contains_cons, List.contains_nil, Nat.reduceBEq, Bool.true_or, Bool.false_or, Bool.or_true, List.set_cons_zero, List.set_cons_succ, List.length_cons, List.length_nil, isLd, Bool.true_and, Bool.false_and, Bool.and_true, Bool.and_false, e5], by simp (maxSteps := 300000) (disch := omega) only [gs, gs2, gs3, ↓reduceIte, Nat.reduceEqDiff, Nat.mul_one, Nat.add_zero, Nat.zero_add, Nat.zero_mul, Int.toNat_natCast, Int.reduceToNat, Nat.reduceMul, Nat.reduceAdd, decide_true, decide_false, Bool.not_true, Bool.not_false, true_and, and_true, List.map_cons, List.map_nil, List.nil_append, List.cons_append, List.append_nil, Option.map_some, Option.bind_some, List.getElem?_cons_zero, List.getElem?_cons_succ, Bool.false_eq_true, not_true_eq_false, not_false_eq_true, List.contains_cons, List.contains_nil, Nat.reduceBEq, Bool.true_or, Bool.false_or, Bool.or_true, List.set_cons_zero, List.set_cons_succ, List.length_cons, List.length_nil, isLd, Bool.true_and, Bool.false_and, Bool.and_true, Bool.and_false] <;> rw [ej0], rfl, hPI, by rw [ej0, hstep], Sub.del _ _, hF2⟩ ?_
      clear e0 e3 e4 e5 e6 hv hmin hj hjf hvr
      have hSd : Sub G (del G3 bF) := hS2.in_del hbF
      rintro m' T G4 ⟨j, f, fl', e0, e3, e4, e5, e7, rfl, hP, hpp, hS4, hF4⟩
      have f1 := rd_sub (hSd.trans hS4) k1
      have hvr := hI.rng (st.q.getD m' 0) (mem_getD'.2 ⟨m', hP.hj, rfl⟩)
      have hl' := hP.cap.1
      simp (maxSteps := 300000) (disch := omega) only [gs, gs2, gs3, ↓reduceIte, Nat.reduceEqDiff, Nat.mul_one, Nat.add_zero, Nat.zero_add, Nat.zero_mul, Int.toNat_natCast, Int.reduceToNat, Nat.reduceMul, Nat.reduceAdd, decide_true, decide_false, Bool.not_true, Bool.not_false, true_and, and_true, List.map_cons, List.map_nil, List.nil_append, List.cons_append, List.append_nil, Option.map_some, Option.bind_some, List.getElem?_cons_zero, List.getElem?_cons_succ, Bool.false_eq_true, not_true_eq_false, not_false_eq_true, List.contains_cons, List.contains_nil, Nat.reduceBEq, Bool.true_or, Bool.false_or, Bool.or_true, List.set_cons_zero, List.set_cons_succ, List.length_cons, List.length_nil, isLd, Bool.true_and, Bool.false_and, Bool.and_true, Bool.and_false, e0, e3, e4, e5, e7, f1]
      by_cases hv : st.q.getD m' 0 = N.s
      · simp (maxSteps := 300000) (disch := omega) only [gs, gs2, gs3, ↓reduceIte, Nat.reduceEqDiff, Nat.mul_one, Nat.add_zero, Nat.zero_add, Nat.zero_mul, Int.toNat_natCast, Int.reduceToNat, Nat.reduceMul, Nat.reduceAdd, decide_true, decide_false, Bool.not_true, Bool.not_false, true_and, and_true, List.map_cons, List.map_nil, List.nil_append, List.cons_append, List.append_nil, Option.map_some, Option.bind_some, List.getElem?_cons_zero, List.getElem?_cons_succ, Bool.false_eq_true, not_true_eq_false, not_false_eq_true, List.contains_cons, List.contains_nil, Nat.reduceBEq, Bool.true_or, Bool.false_or, Bool.or_true, List.set_cons_zero, List.set_cons_succ, List.length_cons, List.length_nil, isLd, Bool.true_and, Bool.false_and, Bool.and_true, Bool.and_false, eq_true hv, e0, e3, e4, e5, e7]
        rw [hv, pushP_end] at hpp
        subst hpp
        exact ⟨_, hlt, G4, Sub.refl _, fl', by rw [hfl], rfl, hc', hgr', hSd.trans hS4, hF4⟩
      · obtain ⟨i, f', rfl, hij, ei, huv, hrm, hP', hpp'⟩ := hP.step hI (by omega) hv
        rw [hpp'] at hpp
        have hRd4 : rd G4 (pa Aw (st.q.getD m' 0).toNat) = some (.int .i64 (st.b (st.q.getD m' 0))) := by
          have := hRd (st.q.getD m' 0) (by omega) (by omega)
          exact rd_sub hS4 (rd_away this nbW fun x hx => del_ne _ hx)
        simp (maxSteps := 300000) (disch := omega) only [gs, gs2, gs3, ↓reduceIte, Nat.reduceEqDiff, Nat.mul_one, Nat.add_zero, Nat.zero_add, Nat.zero_mul, Int.toNat_natCast, Int.reduceToNat, Nat.reduceMul, Nat.reduceAdd, decide_true, decide_false, Bool.not_true, Bool.not_false, true_and, and_true, List.map_cons, List.map_nil, List.nil_append, List.cons_append, List.append_nil, Option.map_some, Option.bind_some, List.getElem?_cons_zero, List.getElem?_cons_succ, Bool.false_eq_true, not_true_eq_false, not_false_eq_true, List.contains_cons, List.contains_nil, Nat.reduceBEq, Bool.true_or, Bool.false_or, Bool.or_true, List.set_cons_zero, List.set_cons_succ, List.length_cons, List.length_nil, isLd, Bool.true_and, Bool.false_and, Bool.and_true, Bool.and_false, eq_false hv, e0, e3, e4, e5, e7, hRd4]
        rw [show Value.slice (some ⟨bF, 0, none⟩) N.arcs.length N.arcs.length = .slice (some ⟨bF, 0, none⟩) fl'.length fl'.length by rw [hl']]
        refine spec_l19Push_ok (h.sub hSd) hS4 (del_none _ _) hF4 hn hP.cap (by omega) fun r => ?_
        have hS5 : Sub (del G3 bF) (put G4 bF ⟨(push N.arcs fl' (st.b (st.q.getD m' 0)) (st.q.getD m' 0) acc).map I64, true⟩) := hS4.skip (del_none _ _)
        have hRd5 : rd (put G4 bF ⟨(push N.arcs fl' (st.b (st.q.getD m' 0)) (st.q.getD m' 0) acc).map I64, true⟩) (pa Aw (st.q.getD m' 0).toNat) = some (.int .i64 (st.b (st.q.getD m' 0))) := by
          exact rd_away hRd4 nbW fun x hx => put_ne _ _ hx
        simp (maxSteps := 300000) (disch := omega) only [gs, gs2, gs3, ↓reduceIte, Nat.reduceEqDiff, Nat.mul_one, Nat.add_zero, Nat.zero_add, Nat.zero_mul, Int.toNat_natCast, Int.reduceToNat, Nat.reduceMul, Nat.reduceAdd, decide_true, decide_false, Bool.not_true, Bool.not_false, true_and, and_true, List.map_cons, List.map_nil, List.nil_append, List.cons_append, List.append_nil, Option.map_some, Option.bind_some, List.getElem?_cons_zero, List.getElem?_cons_succ, Bool.false_eq_true, not_true_eq_false, not_false_eq_true, List.contains_cons, List.contains_nil, Nat.reduceBEq, Bool.true_or, Bool.false_or, Bool.or_true, List.set_cons_zero, List.set_cons_succ, List.length_cons, List.length_nil, isLd, Bool.true_and, Bool.false_and, Bool.and_true, Bool.and_false, e0, e3, e4, e5, e7, hRd5]
        exact ⟨i, hij, _, Sub.refl _, i, f', _, by rw [hl'], by rw [ei], rfl, hP', hpp, hS5, put_same _ _ _⟩
    · obtain ⟨i, f', rfl, hij, ei, hmin'⟩ := minP_step hI hj hjf hv acc
      have hmm : min acc (rm N.arcs fl (st.b (st.q.getD m 0)) (st.q.getD m 0)) = (if rm N.arcs fl (st.b (st.q.getD m 0)) (st.q.getD m 0) < acc then rm N.arcs fl (st.b (st.q.getD m 0)) (st.q.getD m 0) else acc) := by split <;> omega
      rw [hmin', ← hmm] at hmin
      have hfr := hRd (st.q.getD m 0) (by omega) (by omega)
      simp (maxSteps := 300000) (disch := omega) only [gs, gs2, gs3, ↓reduceIte, Nat.reduceEqDiff, Nat.mul_one, Nat.add_zero, Nat.zero_add, Nat.zero_mul, Int.toNat_natCast, Int.reduceToNat, Nat.reduceMul, Nat.reduceAdd, decide_true, decide_false, Bool.not_true, Bool.not_false, true_and, and_true, List.map_cons, List.map_nil, List.nil_append, List.cons_append, List.append_nil, Option.map_some, Option.bind_some, List.getElem?_cons_zero, List.getElem?_cons_succ, Bool.false_eq_true, not_true_eq_false, not_false_eq_true, List.contains_cons, List.contains_nil, Nat.reduceBEq, Bool.true_or, Bool.false_or, Bool.or_true, List.set_cons_zero, List.set_cons_succ, List.length_cons, List.length_nil, isLd, Bool.true_and, Bool.false_and, Bool.and_true, Bool.and_false, eq_false hv, e0, e3, e4, e5, e6, f0, f1, f2, f3, hfr]
      refine spec_l19Room_ok (h.sub hS2) (blk_ints hF2) hn hc ?_
      simp (maxSteps := 300000) (disch := omega) only [gs, gs2, gs3, ↓reduceIte, Nat.reduceEqDiff, Nat.mul_one, Nat.add_zero, Nat.zero_add, Nat.zero_mul, Int.toNat_natCast, Int.reduceToNat, Nat.reduceMul, Nat.reduceAdd, decide_true, decide_false, Bool.not_true, Bool.not_false, true_and, and_true, List.map_cons, List.map_nil, List.nil_append, List.cons_append, List.append_nil, Option.map_some, Option.bind_some, List.getElem?_cons_zero, List.getElem?_cons_succ, Bool.false_eq_true, not_true_eq_false, not_false_eq_true, List.contains_cons, List.contains_nil, Nat.reduceBEq, Bool.true_or, Bool.false_or, Bool.or_true, List.set_cons_zero, List.set_cons_succ, List.length_cons, List.length_nil, isLd, Bool.true_and, Bool.false_and, Bool.and_true, Bool.and_false, e0, e3, e4, e5, e6, hfr]
      refine spec_l00Min_ok _ _ ?_
      simp (maxSteps := 300000) (disch := omega) only [gs, gs2, gs3, ↓reduceIte, Nat.reduceEqDiff, Nat.mul_one, Nat.add_zero, Nat.zero_add, Nat.zero_mul, Int.toNat_natCast, Int.reduceToNat, Nat.reduceMul, Nat.reduceAdd, decide_true, decide_false, Bool.not_true, Bool.not_false, true_and, and_true, List.map_cons, List.map_nil, List.nil_append, List.cons_append, List.append_nil, Option.map_some, Option.bind_some, List.getElem?_cons_zero, List.getElem?_cons_succ, Bool.false_eq_true, not_true_eq_false, not_false_eq_true, List.contains_cons, List.contains_nil, Nat.reduceBEq, Bool.true_or, Bool.false_or, Bool.or_true, List.set_cons_zero, List.set_cons_succ, List.length_cons, List.length_nil, isLd, Bool.true_and, Bool.false_and, Bool.and_true, Bool.and_false, e0, e3, e4, e5, e6, hfr]
      exact ⟨i, by omega, _, Sub.refl _, i, f', _, rfl, by rw [ei], rfl, by omega, by omega, hmin, rfl⟩
/-- the result of a function that returns a list, a number and a code. -/
abbrev LII (v : List Int × Int × Int) (K : Value → GH → Prop) (G : GH) : Prop := ∀ G' A c, New G G' A c (v.1.map I64) 1 v.1.length → K (.tuple [.slice A v.1.length c, .int .i64 v.2.1, .int .i64 v.2.2].toArray) G'
theorem LII.err {K : Value → GH → Prop} {G : GH} {v : List Int × Int × Int} {code : Int} (hk : LII v K G) (h : v = ([], 0, code)) : K (.tuple [.slice none 0 0, .int .i64 0, .int .i64 code].toArray) G := by
  subst h; exact hk G none 0 (New.nil _ _)
theorem great_len {N : Net} (hn : NetOk N) : (greatV N).length = N.arcs.length := (great_ok hn).2.1
/-- one's own block, over a smaller ground. -/
theorem own_low {G G' : GH} {b c n : Nat} {xs : List Int} {r : List Value} (s : Sub G G') (nb : G b = none) (hb : G' b = some ⟨xs.map I64 ++ r, true⟩) (hn : xs.length = n) (hc : n + r.length = c) : ∃ G'', Sub G'' G' ∧ New G G'' (some ⟨b, 0, none⟩) c (xs.map I64) 1 n :=
  Own.new (.inr ⟨b, r, rfl, hb, by simpa using hn, by simp; omega, by omega⟩) s fun a ha => by cases ha; exact nb
open Classical in
noncomputable def greatR (N : Net) : List Int × Int × Int := if NetOk N then (greatV N, exc N.arcs (greatV N) N.t N.arcs.length, 0) else ([], 0, 1)
theorem spec_GreatestFlow_ok {G : GH} {N : Net} {A : Option Addr} {c : Nat} (h : T3S G A c N.arcs) (hr : R64 N.n) (hl : N.arcs.length < 2 ^ 40) {K : Value → GH → Prop}
    (hk : LII (greatR N) K G) : GC Try.prog 88 [netV N A c] G K := by
  refine GC_drop (c_spec_GreatestFlow_i (by simp) ?_)
  unfold netV
  simp (maxSteps := 300000) (disch := omega) only [gs, gs2, gs3, ↓reduceIte, Nat.reduceEqDiff, Nat.mul_one, Nat.add_zero, Nat.zero_add, Nat.zero_mul, Int.toNat_natCast, Int.reduceToNat, Nat.reduceMul, Nat.reduceAdd, decide_true, decide_false, Bool.not_true, Bool.not_false, true_and, and_true, List.map_cons, List.map_nil, List.nil_append, List.cons_append, List.append_nil, Option.map_some, Option.bind_some, List.getElem?_cons_zero, List.getElem?_cons_succ, Bool.false_eq_true, not_true_eq_false, not_false_eq_true, List.contains_cons, List.contains_nil, Nat.reduceBEq, Bool.true_or, Bool.false_or, Bool.or_true, List.set_cons_zero, List.set_cons_succ, List.length_cons, List.length_nil, isLd, Bool.true_and, Bool.false_and, Bool.and_true, Bool.and_false]
  intro b1 hb1
  have hP := NetP.box hb1 h
  have s1 := Sub.put hb1 ⟨netC N A c, true⟩
  revert hP s1
  generalize put G b1 ⟨netC N A c, true⟩ = G1
  intro hP s1
  simp (maxSteps := 300000) (disch := omega) only [gs, gs2, gs3, ↓reduceIte, Nat.reduceEqDiff, Nat.mul_one, Nat.add_zero, Nat.zero_add, Nat.zero_mul, Int.toNat_natCast, Int.reduceToNat, Nat.reduceMul, Nat.reduceAdd, decide_true, decide_false, Bool.not_true, Bool.not_false, true_and, and_true, List.map_cons, List.map_nil, List.nil_append, List.cons_append, List.append_nil, Option.map_some, Option.bind_some, List.getElem?_cons_zero, List.getElem?_cons_succ, Bool.false_eq_true, not_true_eq_false, not_false_eq_true, List.contains_cons, List.contains_nil, Nat.reduceBEq, Bool.true_or, Bool.false_or, Bool.or_true, List.set_cons_zero, List.set_cons_succ, List.length_cons, List.length_nil, isLd, Bool.true_and, Bool.false_and, Bool.and_true, Bool.and_false]
  refine spec_l19Ok_ok hP hr hl fun b hb => ?_
  cases b
  · simp (maxSteps := 300000) (disch := omega) only [gs, gs2, gs3, ↓reduceIte, Nat.reduceEqDiff, Nat.mul_one, Nat.add_zero, Nat.zero_add, Nat.zero_mul, Int.toNat_natCast, Int.reduceToNat, Nat.reduceMul, Nat.reduceAdd, decide_true, decide_false, Bool.not_true, Bool.not_false, true_and, and_true, List.map_cons, List.map_nil, List.nil_append, List.cons_append, List.append_nil, Option.map_some, Option.bind_some, List.getElem?_cons_zero, List.getElem?_cons_succ, Bool.false_eq_true, not_true_eq_false, not_false_eq_true, List.contains_cons, List.contains_nil, Nat.reduceBEq, Bool.true_or, Bool.false_or, Bool.or_true, List.set_cons_zero, List.set_cons_succ, List.length_cons, List.length_nil, isLd, Bool.true_and, Bool.false_and, Bool.and_true, Bool.and_false]
    exact ⟨G, s1, hk.err (by unfold greatR; rw [if_neg (fun x => by simpa using hb.2 x)])⟩
  · have hn := hb.1 rfl
    simp (maxSteps := 300000) (disch := omega) only [gs, gs2, gs3, ↓reduceIte, Nat.reduceEqDiff, Nat.mul_one, Nat.add_zero, Nat.zero_add, Nat.zero_mul, Int.toNat_natCast, Int.reduceToNat, Nat.reduceMul, Nat.reduceAdd, decide_true, decide_false, Bool.not_true, Bool.not_false, true_and, and_true, List.map_cons, List.map_nil, List.nil_append, List.cons_append, List.append_nil, Option.map_some, Option.bind_some, List.getElem?_cons_zero, List.getElem?_cons_succ, Bool.false_eq_true, not_true_eq_false, not_false_eq_true, List.contains_cons, List.contains_nil, Nat.reduceBEq, Bool.true_or, Bool.false_or, Bool.or_true, List.set_cons_zero, List.set_cons_succ, List.length_cons, List.length_nil, isLd, Bool.true_and, Bool.false_and, Bool.and_true, Bool.and_false]
    refine spec_l19Greatest_ok hP hn fun G2 bF nF hS hF => ?_
    have hV : greatR N = (greatV N, exc N.arcs (greatV N) N.t N.arcs.length, 0) := if_pos hn
    have k2 : rd G2 (some ⟨b1, 2, none⟩) = some (.int .i64 N.t) := rd_sub hS hP.f2
    have hfl := great_len hn
    simp (maxSteps := 300000) (disch := omega) only [gs, gs2, gs3, ↓reduceIte, Nat.reduceEqDiff, Nat.mul_one, Nat.add_zero, Nat.zero_add, Nat.zero_mul, Int.toNat_natCast, Int.reduceToNat, Nat.reduceMul, Nat.reduceAdd, decide_true, decide_false, Bool.not_true, Bool.not_false, true_and, and_true, List.map_cons, List.map_nil, List.nil_append, List.cons_append, List.append_nil, Option.map_some, Option.bind_some, List.getElem?_cons_zero, List.getElem?_cons_succ, Bool.false_eq_true, not_true_eq_false, not_false_eq_true, List.contains_cons, List.contains_nil, Nat.reduceBEq, Bool.true_or, Bool.false_or, Bool.or_true, List.set_cons_zero, List.set_cons_succ, List.length_cons, List.length_nil, isLd, Bool.true_and, Bool.false_and, Bool.and_true, Bool.and_false, k2]
    rw [show Value.slice (some ⟨bF, 0, none⟩) N.arcs.length N.arcs.length = .slice (some ⟨bF, 0, none⟩) (greatV N).length (greatV N).length by rw [hfl]]
    refine spec_l19Excess_ok (hP.sub hS) (blk_ints hF) (cap_FlB hn (great_ok hn).2) ?_
    simp (maxSteps := 300000) (disch := omega) only [gs, gs2, gs3, ↓reduceIte, Nat.reduceEqDiff, Nat.mul_one, Nat.add_zero, Nat.zero_add, Nat.zero_mul, Int.toNat_natCast, Int.reduceToNat, Nat.reduceMul, Nat.reduceAdd, decide_true, decide_false, Bool.not_true, Bool.not_false, true_and, and_true, List.map_cons, List.map_nil, List.nil_append, List.cons_append, List.append_nil, Option.map_some, Option.bind_some, List.getElem?_cons_zero, List.getElem?_cons_succ, Bool.false_eq_true, not_true_eq_false, not_false_eq_true, List.contains_cons, List.contains_nil, Nat.reduceBEq, Bool.true_or, Bool.false_or, Bool.or_true, List.set_cons_zero, List.set_cons_succ, List.length_cons, List.length_nil, isLd, Bool.true_and, Bool.false_and, Bool.and_true, Bool.and_false, k2]
    obtain ⟨G3, s3, hN⟩ := own_low (n := (greatV N).length) (c := (greatV N).length) (r := []) (s1.trans hS) (s1.none nF) (by rw [List.append_nil]; exact hF) rfl (by simp)
    rw [hV] at hk
    exact ⟨G3, s3, hk _ _ _ hN⟩
theorem impl_GreatestFlow_ok {G : GH} {N : Net} {A : Option Addr} {c : Nat} (h : T3S G A c N.arcs) (hr : R64 N.n) (hl : N.arcs.length < 2 ^ 40) {K : Value → GH → Prop}
    (hk : LII (greatR N) K G) : GC Try.prog 90 [netV N A c] G K := by
  refine GC_drop (c_impl_GreatestFlow_i (by simp) ?_)
  unfold netV netC
  simp (maxSteps := 300000) (disch := omega) only [gs, gs2, gs3, ↓reduceIte, Nat.reduceEqDiff, Nat.mul_one, Nat.add_zero, Nat.zero_add, Nat.zero_mul, Int.toNat_natCast, Int.reduceToNat, Nat.reduceMul, Nat.reduceAdd, decide_true, decide_false, Bool.not_true, Bool.not_false, true_and, and_true, List.map_cons, List.map_nil, List.nil_append, List.cons_append, List.append_nil, Option.map_some, Option.bind_some, List.getElem?_cons_zero, List.getElem?_cons_succ, Bool.false_eq_true, not_true_eq_false, not_false_eq_true, List.contains_cons, List.contains_nil, Nat.reduceBEq, Bool.true_or, Bool.false_or, Bool.or_true, List.set_cons_zero, List.set_cons_succ, List.length_cons, List.length_nil, isLd, Bool.true_and, Bool.false_and, Bool.and_true, Bool.and_false]
  intro b1 hb1
  have s1 := Sub.put hb1 ⟨[.int .i64 N.n, .int .i64 N.s, .int .i64 N.t, .slice A N.arcs.length c], true⟩
  have k0 : rd (put G b1 ⟨[.int .i64 N.n, .int .i64 N.s, .int .i64 N.t, .slice A N.arcs.length c], true⟩) (some ⟨b1, 0, none⟩) = some (.int .i64 N.n) := rd_box _ _ _ 0 _ rfl
  have k1 : rd (put G b1 ⟨[.int .i64 N.n, .int .i64 N.s, .int .i64 N.t, .slice A N.arcs.length c], true⟩) (some ⟨b1, 1, none⟩) = some (.int .i64 N.s) := rd_box _ _ _ 1 _ rfl
  have k2 : rd (put G b1 ⟨[.int .i64 N.n, .int .i64 N.s, .int .i64 N.t, .slice A N.arcs.length c], true⟩) (some ⟨b1, 2, none⟩) = some (.int .i64 N.t) := rd_box _ _ _ 2 _ rfl
  have k3 : rd (put G b1 ⟨[.int .i64 N.n, .int .i64 N.s, .int .i64 N.t, .slice A N.arcs.length c], true⟩) (some ⟨b1, 3, none⟩) = some (.slice A N.arcs.length c) := rd_box _ _ _ 3 _ rfl
  revert s1 k0 k1 k2 k3
  generalize put G b1 ⟨[.int .i64 N.n, .int .i64 N.s, .int .i64 N.t, .slice A N.arcs.length c], true⟩ = G1
  intro s1 k0 k1 k2 k3
  simp (maxSteps := 300000) (disch := omega) only [gs, gs2, gs3, ↓reduceIte, Nat.reduceEqDiff, Nat.mul_one, Nat.add_zero, Nat.zero_add, Nat.zero_mul, Int.toNat_natCast, Int.reduceToNat, Nat.reduceMul, Nat.reduceAdd, decide_true, decide_false, Bool.not_true, Bool.not_false, true_and, and_true, List.map_cons, List.map_nil, List.nil_append, List.cons_append, List.append_nil, Option.map_some, Option.bind_some, List.getElem?_cons_zero, List.getElem?_cons_succ, Bool.false_eq_true, not_true_eq_false, not_false_eq_true, List.contains_cons, List.contains_nil, Nat.reduceBEq, Bool.true_or, Bool.false_or, Bool.or_true, List.set_cons_zero, List.set_cons_succ, List.length_cons, List.length_nil, isLd, Bool.true_and, Bool.false_and, Bool.and_true, Bool.and_false, k0, k1, k2, k3]
  refine impl_ValidNetwork_ok (N := N) (h.sub s1) hr hl fun b hb => ?_
  cases b
  · simp (maxSteps := 300000) (disch := omega) only [gs, gs2, gs3, ↓reduceIte, Nat.reduceEqDiff, Nat.mul_one, Nat.add_zero, Nat.zero_add, Nat.zero_mul, Int.toNat_natCast, Int.reduceToNat, Nat.reduceMul, Nat.reduceAdd, decide_true, decide_false, Bool.not_true, Bool.not_false, true_and, and_true, List.map_cons, List.map_nil, List.nil_append, List.cons_append, List.append_nil, Option.map_some, Option.bind_some, List.getElem?_cons_zero, List.getElem?_cons_succ, Bool.false_eq_true, not_true_eq_false, not_false_eq_true, List.contains_cons, List.contains_nil, Nat.reduceBEq, Bool.true_or, Bool.false_or, Bool.or_true, List.set_cons_zero, List.set_cons_succ, List.length_cons, List.length_nil, isLd, Bool.true_and, Bool.false_and, Bool.and_true, Bool.and_false]
    exact ⟨G, s1, hk.err (by unfold greatR; rw [if_neg (fun x => by simpa using hb.2 x)])⟩
  · have hn := hb.1 rfl
    simp (maxSteps := 300000) (disch := omega) only [gs, gs2, gs3, ↓reduceIte, Nat.reduceEqDiff, Nat.mul_one, Nat.add_zero, Nat.zero_add, Nat.zero_mul, Int.toNat_natCast, Int.reduceToNat, Nat.reduceMul, Nat.reduceAdd, decide_true, decide_false, Bool.not_true, Bool.not_false, true_and, and_true, List.map_cons, List.map_nil, List.nil_append, List.cons_append, List.append_nil, Option.map_some, Option.bind_some, List.getElem?_cons_zero, List.getElem?_cons_succ, Bool.false_eq_true, not_true_eq_false, not_false_eq_true, List.contains_cons, List.contains_nil, Nat.reduceBEq, Bool.true_or, Bool.false_or, Bool.or_true, List.set_cons_zero, List.set_cons_succ, List.length_cons, List.length_nil, isLd, Bool.true_and, Bool.false_and, Bool.and_true, Bool.and_false, k0, k1, k2, k3]
    refine impl_greatestFlow_ok (N := N) (h.sub s1) hn fun G2 bF bO cO r nF nO hS hF hO hlO hne => ?_
    have hV : greatR N = (greatV N, exc N.arcs (greatV N) N.t N.arcs.length, 0) := if_pos hn
    have f0 := rd_sub hS k0
    have f1 := rd_sub hS k1
    have f2 := rd_sub hS k2
    have f3 := rd_sub hS k3
    have hfl := great_len hn
    have h3 := hn.2.2.1
    rw [hV] at hk
    simp (maxSteps := 300000) (disch := omega) only [gs, gs2, gs3, ↓reduceIte, Nat.reduceEqDiff, Nat.mul_one, Nat.add_zero, Nat.zero_add, Nat.zero_mul, Int.toNat_natCast, Int.reduceToNat, Nat.reduceMul, Nat.reduceAdd, decide_true, decide_false, Bool.not_true, Bool.not_false, true_and, and_true, List.map_cons, List.map_nil, List.nil_append, List.cons_append, List.append_nil, Option.map_some, Option.bind_some, List.getElem?_cons_zero, List.getElem?_cons_succ, Bool.false_eq_true, not_true_eq_false, not_false_eq_true, List.contains_cons, List.contains_nil, Nat.reduceBEq, Bool.true_or, Bool.false_or, Bool.or_true, List.set_cons_zero, List.set_cons_succ, List.length_cons, List.length_nil, isLd, Bool.true_and, Bool.false_and, Bool.and_true, Bool.and_false, f0, f1, f2, f3]
    rw [show Value.slice (some ⟨bF, 0, none⟩) N.arcs.length N.arcs.length = .slice (some ⟨bF, 0, none⟩) (greatV N).length (greatV N).length by rw [hfl]]
    refine impl_excess_ok (N := N) ((h.sub s1).sub hS) (blk_ints hF) hn (cap_FlB hn (great_ok hn).2) fun bE hbE => ?_
    have sE := Sub.put hbE ⟨(List.range N.n.toNat).map (fun v : Nat => I64 (exc N.arcs (greatV N) v N.arcs.length)), true⟩
    have fE : rd (put G2 bE ⟨(List.range N.n.toNat).map (fun v : Nat => I64 (exc N.arcs (greatV N) v N.arcs.length)), true⟩) (some ⟨bE, N.t.toNat, none⟩) = some (.int .i64 (exc N.arcs (greatV N) N.t N.arcs.length)) := by
      rw [rd_put]
      have : N.t.toNat < N.n.toNat := by omega
      simp [this, I64, Int.toNat_of_nonneg h3.1]
    have f2' := rd_sub sE f2
    simp (maxSteps := 300000) (disch := omega) only [gs, gs2, gs3, ↓reduceIte, Nat.reduceEqDiff, Nat.mul_one, Nat.add_zero, Nat.zero_add, Nat.zero_mul, Int.toNat_natCast, Int.reduceToNat, Nat.reduceMul, Nat.reduceAdd, decide_true, decide_false, Bool.not_true, Bool.not_false, true_and, and_true, List.map_cons, List.map_nil, List.nil_append, List.cons_append, List.append_nil, Option.map_some, Option.bind_some, List.getElem?_cons_zero, List.getElem?_cons_succ, Bool.false_eq_true, not_true_eq_false, not_false_eq_true, List.contains_cons, List.contains_nil, Nat.reduceBEq, Bool.true_or, Bool.false_or, Bool.or_true, List.set_cons_zero, List.set_cons_succ, List.length_cons, List.length_nil, isLd, Bool.true_and, Bool.false_and, Bool.and_true, Bool.and_false, f2', fE]
    obtain ⟨G3, s3, hN⟩ := own_low (n := (greatV N).length) (c := (greatV N).length) (r := []) (s1.trans hS) (s1.none nF) (by rw [List.append_nil]; exact hF) rfl (by simp)
    exact ⟨G3, s3.trans sE, hk _ _ _ hN⟩
theorem getD_set3 (es : List T3) (k : Nat) (x : T3) (i : Nat) (hi : i < es.length) : (es.set k x).getD i z3 = if k = i then x else es.getD i z3 := by
  simp only [List.getD, List.getElem?_set]
  by_cases h : k = i
  · subst h; simp [hi]
  · simp [h]
theorem flat3_set2 (x : Int) (r : List Value) : ∀ (es : List T3) (k : Nat), k < es.length → (flat3 es ++ r).set (k * 3 + 2) (.int .i64 x) = flat3 (es.set k ((es.getD k z3).1, (es.getD k z3).2.1, x)) ++ r
  | [], k, h => by simp at h
  | e :: es, 0, _ => by simp [flat3, c3, List.getD]
  | e :: es, k + 1, h => by
    have ih := flat3_set2 x r es k (by simpa using h)
    have e1 : flat3 (e :: es) = c3 e ++ flat3 es := by simp [flat3]
    have e2 : (e :: es).getD (k + 1) z3 = es.getD k z3 := rfl
    rw [e1, e2, List.set_cons_succ, show flat3 (e :: es.set k ((es.getD k z3).1, (es.getD k z3).2.1, x)) = c3 e ++ flat3 (es.set k ((es.getD k z3).1, (es.getD k z3).2.1, x)) by simp [flat3], List.append_assoc, List.append_assoc, ← ih, show (k + 1) * 3 + 2 = (c3 e).length + (k * 3 + 2) by simp [c3]; omega, List.set_append_right _ _ (by omega), Nat.add_sub_cancel_left]
theorem T3S.cells {G : GH} {A : Option Addr} {c : Nat} {es : List T3} (h : T3S G A c es) : Cells G A (flat3 es) := fun i v hv => by
  have hl : i < (flat3 es).length := by
    rcases Nat.lt_or_ge i (flat3 es).length with h | h
    · exact h
    · rw [List.getElem?_eq_none h] at hv; cases hv
  rw [flat3_len] at hl
  have hi : i / 3 < es.length := by omega
  obtain ⟨g0, g1, g2⟩ := flat3_get es (i / 3) hi
  have h3 : i % 3 = 0 ∨ i % 3 = 1 ∨ i % 3 = 2 := by omega
  rcases h3 with h3 | h3 | h3
  · rw [show i = i / 3 * 3 by omega] at hv ⊢
    rw [g0] at hv; cases hv
    exact h.r0 _ hi
  · have e : i = i / 3 * 3 + 1 := by omega
    rw [e] at hv ⊢
    rw [g1] at hv; cases hv
    exact h.r1 _ hi
  · have e : i = i / 3 * 3 + 2 := by omega
    rw [e] at hv ⊢
    rw [g2] at hv; cases hv
    exact h.r2 _ hi
theorem flat3_one (es : List T3) : ∀ v ∈ flat3 es, oneB v = true := fun v hv => by
  obtain ⟨e, _, h⟩ := List.mem_flatMap.1 hv
  exact c3_one e v h
/-- a network with an arc closed. -/
def lessA (es : List T3) (k : Nat) : List T3 := es.set k ((es.getD k z3).1, (es.getD k z3).2.1, 0)
def lessN (N : Net) (k : Nat) : Net := ⟨N.n, N.s, N.t, lessA N.arcs k⟩
theorem lessA_len (es : List T3) (k : Nat) : (lessA es k).length = es.length := by simp [lessA]
theorem lessA_get (es : List T3) (k i : Nat) (hi : i < es.length) : ((lessA es k).getD i z3).1 = (es.getD i z3).1 ∧ ((lessA es k).getD i z3).2.1 = (es.getD i z3).2.1 ∧ (((lessA es k).getD i z3).2.2 = (es.getD i z3).2.2 ∨ ((lessA es k).getD i z3).2.2 = 0) := by
  unfold lessA
  rw [getD_set3 _ _ _ _ hi]
  by_cases h : k = i
  · subst h; rw [if_pos rfl]; exact ⟨rfl, rfl, .inr rfl⟩
  · rw [if_neg h]; exact ⟨rfl, rfl, .inl rfl⟩
theorem less_ok {N : Net} (hn : NetOk N) (k : Nat) : NetOk (lessN N k) := by
  obtain ⟨h1, h2, h3, h4, ⟨h5, h6⟩, h7⟩ := hn
  refine ⟨h1, h2, h3, h4, ⟨fun i hi => ?_, fun i hi => ?_⟩, ?_⟩
  · have hi : i < N.arcs.length := by have := lessA_len N.arcs k; unfold lessN at hi; dsimp only at hi; omega
    have := h5 i hi
    obtain ⟨e1, e2, e3⟩ := lessA_get N.arcs k i hi
    unfold okArc at this ⊢
    show (0 ≤ ((lessA N.arcs k).getD i z3).1 ∧ ((lessA N.arcs k).getD i z3).1 ≤ N.n - 1) ∧ (0 ≤ ((lessA N.arcs k).getD i z3).2.1 ∧ ((lessA N.arcs k).getD i z3).2.1 ≤ N.n - 1) ∧ ((lessA N.arcs k).getD i z3).1 ≠ ((lessA N.arcs k).getD i z3).2.1 ∧ (0 ≤ ((lessA N.arcs k).getD i z3).2.2 ∧ ((lessA N.arcs k).getD i z3).2.2 ≤ 1000000)
    rw [e1, e2]
    rcases e3 with e3 | e3 <;> rw [e3] <;> omega
  · have hi : i + 1 < N.arcs.length := by have := lessA_len N.arcs k; unfold lessN at hi; dsimp only at hi; omega
    have := h6 i hi
    obtain ⟨e1, e2, _⟩ := lessA_get N.arcs k i (by omega)
    obtain ⟨e3, e4, _⟩ := lessA_get N.arcs k (i + 1) hi
    unfold ltArc at this ⊢
    show ((lessA N.arcs k).getD i z3).1 < ((lessA N.arcs k).getD (i + 1) z3).1 ∨ ((lessA N.arcs k).getD i z3).1 = ((lessA N.arcs k).getD (i + 1) z3).1 ∧ ((lessA N.arcs k).getD i z3).2.1 < ((lessA N.arcs k).getD (i + 1) z3).2.1
    rw [e1, e2, e3, e4]; exact this
  · show (lessA N.arcs k).length ≤ 24
    rw [lessA_len]; exact h7
/-- the value of the greatest flow. -/
noncomputable def valN (N : Net) : Int := exc N.arcs (greatV N) N.t N.arcs.length
noncomputable def narrB (N : Net) (k : Int) : Bool := decide (valN (lessN N k.toNat) < valN N)
noncomputable def narrA (N : Net) : List Int := (iota N.arcs.length).filter (narrB N)
open Classical in
noncomputable def narrV (N : Net) : List Int × Int := if NetOk N then (narrA N, 0) else ([], 1)
theorem narrA_len (N : Net) : (narrA N).length ≤ N.arcs.length := by
  have := List.length_filter_le (narrB N) (iota N.arcs.length)
  have e : (iota N.arcs.length).length = N.arcs.length := by simp [iota]
  unfold narrA; omega
theorem greatR_val {N : Net} (hn : NetOk N) : greatR N = (greatV N, valN N, 0) := if_pos hn
theorem slices_CloneArc_ok {G : GH} {A : Option Addr} {c : Nat} {es : List T3} (h : T3S G A c es) (hl : es.length < 2 ^ 30) {K : Value → GH → Prop}
    (hk : ∀ G' A' c', New G G' A' c' (flat3 es) 3 es.length → K (.slice A' es.length c') G') : GC Try.prog 197 [.slice A es.length c] G K := by
  refine c_slices_Clone_impl_Arc_impl_Arc_i (by simp) ?_
  cases A with
  | none =>
    have h0 : es.length = 0 := by
      rcases Nat.eq_zero_or_pos es.length with h0 | h0
      · exact h0
      · have := h.sn h0; simp [sn] at this
    obtain rfl : es = [] := List.length_eq_zero_iff.1 h0
    simp (maxSteps := 300000) (disch := omega) only [gs, gs2, gs3, ↓reduceIte, Nat.reduceEqDiff, Nat.mul_one, Nat.add_zero, Nat.zero_add, Nat.zero_mul, Int.toNat_natCast, Int.reduceToNat, Nat.reduceMul, Nat.reduceAdd, decide_true, decide_false, Bool.not_true, Bool.not_false, true_and, and_true, List.map_cons, List.map_nil, List.nil_append, List.cons_append, List.append_nil, Option.map_some, Option.bind_some, List.getElem?_cons_zero, List.getElem?_cons_succ, Bool.false_eq_true, not_true_eq_false, not_false_eq_true, List.contains_cons, List.contains_nil, Nat.reduceBEq, Bool.true_or, Bool.false_or, Bool.or_true, List.set_cons_zero, List.set_cons_succ, List.length_cons, List.length_nil, isLd, Bool.true_and, Bool.false_and, Bool.and_true, Bool.and_false, Option.isNone_none]
    exact hk G none 0 (New.nil _ _)
  | some a =>
    simp (maxSteps := 300000) (disch := omega) only [gs, gs2, gs3, ↓reduceIte, Nat.reduceEqDiff, Nat.mul_one, Nat.add_zero, Nat.zero_add, Nat.zero_mul, Int.toNat_natCast, Int.reduceToNat, Nat.reduceMul, Nat.reduceAdd, decide_true, decide_false, Bool.not_true, Bool.not_false, true_and, and_true, List.map_cons, List.map_nil, List.nil_append, List.cons_append, List.append_nil, Option.map_some, Option.bind_some, List.getElem?_cons_zero, List.getElem?_cons_succ, Bool.false_eq_true, not_true_eq_false, not_false_eq_true, List.contains_cons, List.contains_nil, Nat.reduceBEq, Bool.true_or, Bool.false_or, Bool.or_true, List.set_cons_zero, List.set_cons_succ, List.length_cons, List.length_nil, isLd, Bool.true_and, Bool.false_and, Bool.and_true, Bool.and_false, Option.isNone_some, gBs]
    refine ⟨by intro v hv; simp at hv, fun b hb => ?_⟩
    refine ap_new (New.mk hb [] 3 0 rfl) (Sub.refl _) (h.sub (Sub.put hb _)).cells (flat3_len es) (flat3_one es) rfl (by omega) (by omega) (by omega) fun G'' A' c' hN => ?_
    simp (maxSteps := 300000) (disch := omega) only [gs, gs2, gs3, ↓reduceIte, Nat.reduceEqDiff, Nat.mul_one, Nat.add_zero, Nat.zero_add, Nat.zero_mul, Int.toNat_natCast, Int.reduceToNat, Nat.reduceMul, Nat.reduceAdd, decide_true, decide_false, Bool.not_true, Bool.not_false, true_and, and_true, List.map_cons, List.map_nil, List.nil_append, List.cons_append, List.append_nil, Option.map_some, Option.bind_some, List.getElem?_cons_zero, List.getElem?_cons_succ, Bool.false_eq_true, not_true_eq_false, not_false_eq_true, List.contains_cons, List.contains_nil, Nat.reduceBEq, Bool.true_or, Bool.false_or, Bool.or_true, List.set_cons_zero, List.set_cons_succ, List.length_cons, List.length_nil, isLd, Bool.true_and, Bool.false_and, Bool.and_true, Bool.and_false]
    simpa using hk _ _ _ (hN.cast (by simp) (by simp))
/-- the memory of a network whose arcs are a copy of its own. -/
theorem own_arcs {G G2 : GH} {N : Net} {b9 c' : Nat} {A' : Option Addr} (h0 : 0 < N.arcs.length) (n9 : G b9 = none) {cs : List Value} (hN : New (put G b9 ⟨cs, true⟩) G2 A' c' (flat3 N.arcs) 3 N.arcs.length) :
    ∃ bC r, A' = some ⟨bC, 0, none⟩ ∧ bC ≠ b9 ∧ G bC = none ∧ G2 b9 = some ⟨cs, true⟩ ∧ (put G2 b9 ⟨netC N A' c', true⟩) bC = some ⟨flat3 N.arcs ++ r, true⟩ ∧ N.arcs.length * 3 ≤ (flat3 N.arcs ++ r).length ∧ N.arcs.length ≤ c' ∧ Sub G G2 := by
  · skip
    rcases hN with ⟨_, _, h0, _, _⟩ | ⟨bC, r, rfl, hbC, rfl, hl1, hl2, hc2⟩
    · omega
    obtain ⟨q1, q2⟩ := put_none.1 hbC
    refine ⟨bC, r, rfl, q1, q2, by rw [put_ne _ _ q1.symm, put_same], by rw [put_ne _ _ q1, put_same], ?_, hc2, ?_⟩
    · rw [List.length_append, hl1]; omega
    · exact ((Sub.refl G).skip n9).skip q2
theorem less_mem {G H1 : GH} {N : Net} {b9 bC c' k : Nat} {r : List Value} (hk : k < N.arcs.length) (ne : bC ≠ b9) (n9 : G b9 = none) (nC : G bC = none) (h9 : H1 b9 = some ⟨netC N (some ⟨bC, 0, none⟩) c', true⟩) (hC : H1 bC = some ⟨flat3 N.arcs ++ r, true⟩) (hc : N.arcs.length ≤ c') (s : Sub G H1) :
    Sub G (put H1 bC ⟨(flat3 N.arcs ++ r).set (k * 3 + 2) (.int .i64 0), true⟩) ∧ NetP (put H1 bC ⟨(flat3 N.arcs ++ r).set (k * 3 + 2) (.int .i64 0), true⟩) (some ⟨b9, 0, none⟩) (lessN N k) (some ⟨bC, 0, none⟩) c' := by
  refine ⟨s.skip nC, ?_⟩
  rw [flat3_set2 _ _ _ _ hk]
  have e9 : ∀ i, rd (put H1 bC ⟨flat3 (N.arcs.set k ((N.arcs.getD k z3).1, (N.arcs.getD k z3).2.1, 0)) ++ r, true⟩) (some ⟨b9, i, none⟩) = (netC (lessN N k) (some ⟨bC, 0, none⟩) c')[i]? := fun i => by
    rw [rd_put_ne _ _ _ _ _ ne.symm]
    simp only [rd, h9, Option.bind_some]
    unfold netC lessN; dsimp only; rw [lessA_len]
  have hh := lessA_len N.arcs k
  refine ⟨e9 0, e9 1, e9 2, e9 3, ?_⟩
  refine Cells.t3 (fun i v hv => ?_) (by show (lessA N.arcs k).length ≤ c'; omega)
  rw [pa_mk, rd_put, Nat.zero_add]
  have hlt : i < (flat3 (lessN N k).arcs).length := by
    rcases Nat.lt_or_ge i (flat3 (lessN N k).arcs).length with h | h
    · exact h
    · rw [List.getElem?_eq_none h] at hv; cases hv
  show (flat3 (lessN N k).arcs ++ r)[i]? = some v
  rw [List.getElem?_append_left hlt]; exact hv
theorem impl_NarrowArcs_ok {G : GH} {N : Net} {A : Option Addr} {c : Nat} (h : T3S G A c N.arcs) (hr : R64 N.n) (hl : N.arcs.length < 2 ^ 40) {K : Value → GH → Prop}
    (hk : LI (narrV N) K G) : GC Try.prog 96 [netV N A c] G K := by
  refine GC_drop (c_impl_NarrowArcs_i (by simp) ?_)
  unfold netV netC
  simp (maxSteps := 300000) (disch := omega) only [gs, gs2, gs3, ↓reduceIte, Nat.reduceEqDiff, Nat.mul_one, Nat.add_zero, Nat.zero_add, Nat.zero_mul, Int.toNat_natCast, Int.reduceToNat, Nat.reduceMul, Nat.reduceAdd, decide_true, decide_false, Bool.not_true, Bool.not_false, true_and, and_true, List.map_cons, List.map_nil, List.nil_append, List.cons_append, List.append_nil, Option.map_some, Option.bind_some, List.getElem?_cons_zero, List.getElem?_cons_succ, Bool.false_eq_true, not_true_eq_false, not_false_eq_true, List.contains_cons, List.contains_nil, Nat.reduceBEq, Bool.true_or, Bool.false_or, Bool.or_true, List.set_cons_zero, List.set_cons_succ, List.length_cons, List.length_nil, isLd, Bool.true_and, Bool.false_and, Bool.and_true, Bool.and_false]
  intro b1 hb1
  have s1 := Sub.put hb1 ⟨[.int .i64 N.n, .int .i64 N.s, .int .i64 N.t, .slice A N.arcs.length c], true⟩
  have k0 : rd (put G b1 ⟨[.int .i64 N.n, .int .i64 N.s, .int .i64 N.t, .slice A N.arcs.length c], true⟩) (some ⟨b1, 0, none⟩) = some (.int .i64 N.n) := rd_box _ _ _ 0 _ rfl
  have k1 : rd (put G b1 ⟨[.int .i64 N.n, .int .i64 N.s, .int .i64 N.t, .slice A N.arcs.length c], true⟩) (some ⟨b1, 1, none⟩) = some (.int .i64 N.s) := rd_box _ _ _ 1 _ rfl
  have k2 : rd (put G b1 ⟨[.int .i64 N.n, .int .i64 N.s, .int .i64 N.t, .slice A N.arcs.length c], true⟩) (some ⟨b1, 2, none⟩) = some (.int .i64 N.t) := rd_box _ _ _ 2 _ rfl
  have k3 : rd (put G b1 ⟨[.int .i64 N.n, .int .i64 N.s, .int .i64 N.t, .slice A N.arcs.length c], true⟩) (some ⟨b1, 3, none⟩) = some (.slice A N.arcs.length c) := rd_box _ _ _ 3 _ rfl
  revert s1 k0 k1 k2 k3
  generalize put G b1 ⟨[.int .i64 N.n, .int .i64 N.s, .int .i64 N.t, .slice A N.arcs.length c], true⟩ = G1
  intro s1 k0 k1 k2 k3
  simp (maxSteps := 300000) (disch := omega) only [gs, gs2, gs3, ↓reduceIte, Nat.reduceEqDiff, Nat.mul_one, Nat.add_zero, Nat.zero_add, Nat.zero_mul, Int.toNat_natCast, Int.reduceToNat, Nat.reduceMul, Nat.reduceAdd, decide_true, decide_false, Bool.not_true, Bool.not_false, true_and, and_true, List.map_cons, List.map_nil, List.nil_append, List.cons_append, List.append_nil, Option.map_some, Option.bind_some, List.getElem?_cons_zero, List.getElem?_cons_succ, Bool.false_eq_true, not_true_eq_false, not_false_eq_true, List.contains_cons, List.contains_nil, Nat.reduceBEq, Bool.true_or, Bool.false_or, Bool.or_true, List.set_cons_zero, List.set_cons_succ, List.length_cons, List.length_nil, isLd, Bool.true_and, Bool.false_and, Bool.and_true, Bool.and_false, k0, k1, k2, k3]
  refine impl_GreatestFlow_ok (N := N) (h.sub s1) hr hl fun G2 Av cv hV => ?_
  have s2 := hV.sub
  clear hV
  have k0 := rd_sub s2 k0
  have k1 := rd_sub s2 k1
  have k2 := rd_sub s2 k2
  have k3 := rd_sub s2 k3
  have hA := (h.sub s1).sub s2
  have s12 := s1.trans s2
  by_cases hn : NetOk N
  · rw [greatR_val hn]
    have hR : narrV N = (narrA N, 0) := if_pos hn
    rw [hR] at hk
    have n5 := hn.2.2.2.2.2
    simp (maxSteps := 300000) (disch := omega) only [gs, gs2, gs3, ↓reduceIte, Nat.reduceEqDiff, Nat.mul_one, Nat.add_zero, Nat.zero_add, Nat.zero_mul, Int.toNat_natCast, Int.reduceToNat, Nat.reduceMul, Nat.reduceAdd, decide_true, decide_false, Bool.not_true, Bool.not_false, true_and, and_true, List.map_cons, List.map_nil, List.nil_append, List.cons_append, List.append_nil, Option.map_some, Option.bind_some, List.getElem?_cons_zero, List.getElem?_cons_succ, Bool.false_eq_true, not_true_eq_false, not_false_eq_true, List.contains_cons, List.contains_nil, Nat.reduceBEq, Bool.true_or, Bool.false_or, Bool.or_true, List.set_cons_zero, List.set_cons_succ, List.length_cons, List.length_nil, isLd, Bool.true_and, Bool.false_and, Bool.and_true, Bool.and_false, k0, k1, k2, k3]
    refine gLoop_intro (fun m T G' => ∃ (k : Nat) (Ap : Option Addr) (cp : Nat), T 1 = .pointer (some ⟨b1, 0, none⟩) ∧ T 5 = .int .i64 (valN N) ∧ T 7 = .slice Ap ((iota k).filter (narrB N)).length cp ∧ T 24 = .int .i64 N.arcs.length ∧ T 25 = .int .i64 k ∧ m + k = N.arcs.length ∧ k ≤ N.arcs.length ∧
      Own G' Ap cp (((iota k).filter (narrB N)).map I64) 1 ((iota k).filter (narrB N)).length ∧ Sub G2 G' ∧ Off G2 Ap)
      N.arcs.length ⟨0, none, 0, by simp (maxSteps := 300000) (disch := omega) only [gs, gs2, gs3, ↓reduceIte, Nat.reduceEqDiff, Nat.mul_one, Nat.add_zero, Nat.zero_add, Nat.zero_mul, Int.toNat_natCast, Int.reduceToNat, Nat.reduceMul, Nat.reduceAdd, decide_true, decide_false, Bool.not_true, Bool.not_false, true_and, and_true, List.map_cons, List.map_nil, List.nil_append, List.cons_append, List.append_nil, Option.map_some, Option.bind_some, List.getElem?_cons_zero, List.getElem?_cons_succ, Bool.false_eq_true, not_true_eq_false, not_false_eq_true, List.contains_cons, List.contains_nil, Nat.reduceBEq, Bool.true_or, Bool.false_or, Bool.or_true, List.set_cons_zero, List.set_cons_succ, List.length_cons, List.length_nil, isLd, Bool.true_and, Bool.false_and, Bool.and_true, Bool.and_false], by simp (maxSteps := 300000) (disch := omega) only [gs, gs2, gs3, ↓reduceIte, Nat.reduceEqDiff, Nat.mul_one, Nat.add_zero, Nat.zero_add, Nat.zero_mul, Int.toNat_natCast, Int.reduceToNat, Nat.reduceMul, Nat.reduceAdd, decide_true, decide_false, Bool.not_true, Bool.not_false, true_and, and_true, List.map_cons, List.map_nil, List.nil_append, List.cons_append, List.append_nil, Option.map_some, Option.bind_some, List.getElem?_cons_zero, List.getElem?_cons_succ, Bool.false_eq_true, not_true_eq_false, not_false_eq_true, List.contains_cons, List.contains_nil, Nat.reduceBEq, Bool.true_or, Bool.false_or, Bool.or_true, List.set_cons_zero, List.set_cons_succ, List.length_cons, List.length_nil, isLd, Bool.true_and, Bool.false_and, Bool.and_true, Bool.and_false], by simp (maxSteps := 300000) (disch := omega) only [gs, gs2, gs3, ↓reduceIte, Nat.reduceEqDiff, Nat.mul_one, Nat.add_zero, Nat.zero_add, Nat.zero_mul, Int.toNat_natCast, Int.reduceToNat, Nat.reduceMul, Nat.reduceAdd, decide_true, decide_false, Bool.not_true, Bool.not_false, true_and, and_true, List.map_cons, List.map_nil, List.nil_append, List.cons_append, List.append_nil, Option.map_some, Option.bind_some, List.getElem?_cons_zero, List.getElem?_cons_succ, Bool.false_eq_true, not_true_eq_false, not_false_eq_true, List.contains_cons, List.contains_nil, Nat.reduceBEq, Bool.true_or, Bool.false_or, Bool.or_true, List.set_cons_zero, List.set_cons_succ, List.length_cons, List.length_nil, isLd, Bool.true_and, Bool.false_and, Bool.and_true, Bool.and_false] <;> rfl, by simp (maxSteps := 300000) (disch := omega) only [gs, gs2, gs3, ↓reduceIte, Nat.reduceEqDiff, Nat.mul_one, Nat.add_zero, Nat.zero_add, Nat.zero_mul, Int.toNat_natCast, Int.reduceToNat, Nat.reduceMul, Nat.reduceAdd, decide_true, decide_false, Bool.not_true, Bool.not_false, true_and, and_true, List.map_cons, List.map_nil, List.nil_append, List.cons_append, List.append_nil, Option.map_some, Option.bind_some, List.getElem?_cons_zero, List.getElem?_cons_succ, Bool.false_eq_true, not_true_eq_false, not_false_eq_true, List.contains_cons, List.contains_nil, Nat.reduceBEq, Bool.true_or, Bool.false_or, Bool.or_true, List.set_cons_zero, List.set_cons_succ, List.length_cons, List.length_nil, isLd, Bool.true_and, Bool.false_and, Bool.and_true, Bool.and_false], by simp (maxSteps := 300000) (disch := omega) only [gs, gs2, gs3, ↓reduceIte, Nat.reduceEqDiff, Nat.mul_one, Nat.add_zero, Nat.zero_add, Nat.zero_mul, Int.toNat_natCast, Int.reduceToNat, Nat.reduceMul, Nat.reduceAdd, decide_true, decide_false, Bool.not_true, Bool.not_false, true_and, and_true, List.map_cons, List.map_nil, List.nil_append, List.cons_append, List.append_nil, Option.map_some, Option.bind_some, List.getElem?_cons_zero, List.getElem?_cons_succ, Bool.false_eq_true, not_true_eq_false, not_false_eq_true, List.contains_cons, List.contains_nil, Nat.reduceBEq, Bool.true_or, Bool.false_or, Bool.or_true, List.set_cons_zero, List.set_cons_succ, List.length_cons, List.length_nil, isLd, Bool.true_and, Bool.false_and, Bool.and_true, Bool.and_false] <;> rfl, by omega, by omega, Own.nil _ _, Sub.refl _, Off.nil _⟩ ?_
    rintro m T G' ⟨k, Ap, cp, e1, e5, e7, e24, e25, hm, hkm, hO, hS, hOff⟩
    have f0 := rd_sub hS k0
    have f1 := rd_sub hS k1
    have f2 := rd_sub hS k2
    have f3 := rd_sub hS k3
    simp (maxSteps := 300000) (disch := omega) only [gs, gs2, gs3, ↓reduceIte, Nat.reduceEqDiff, Nat.mul_one, Nat.add_zero, Nat.zero_add, Nat.zero_mul, Int.toNat_natCast, Int.reduceToNat, Nat.reduceMul, Nat.reduceAdd, decide_true, decide_false, Bool.not_true, Bool.not_false, true_and, and_true, List.map_cons, List.map_nil, List.nil_append, List.cons_append, List.append_nil, Option.map_some, Option.bind_some, List.getElem?_cons_zero, List.getElem?_cons_succ, Bool.false_eq_true, not_true_eq_false, not_false_eq_true, List.contains_cons, List.contains_nil, Nat.reduceBEq, Bool.true_or, Bool.false_or, Bool.or_true, List.set_cons_zero, List.set_cons_succ, List.length_cons, List.length_nil, isLd, Bool.true_and, Bool.false_and, Bool.and_true, Bool.and_false, e1, e5, e7, e24, e25]
    by_cases hkk : (k : Int) < N.arcs.length
    · have hlen : ((iota k).filter (narrB N)).length ≤ k := Nat.le_trans (List.length_filter_le _ _) (by rw [iota_len]; exact Nat.le_refl _)
      simp (maxSteps := 300000) (disch := omega) only [gs, gs2, gs3, ↓reduceIte, Nat.reduceEqDiff, Nat.mul_one, Nat.add_zero, Nat.zero_add, Nat.zero_mul, Int.toNat_natCast, Int.reduceToNat, Nat.reduceMul, Nat.reduceAdd, decide_true, decide_false, Bool.not_true, Bool.not_false, true_and, and_true, List.map_cons, List.map_nil, List.nil_append, List.cons_append, List.append_nil, Option.map_some, Option.bind_some, List.getElem?_cons_zero, List.getElem?_cons_succ, Bool.false_eq_true, not_true_eq_false, not_false_eq_true, List.contains_cons, List.contains_nil, Nat.reduceBEq, Bool.true_or, Bool.false_or, Bool.or_true, List.set_cons_zero, List.set_cons_succ, List.length_cons, List.length_nil, isLd, Bool.true_and, Bool.false_and, Bool.and_true, Bool.and_false, e1, e5, e7, e24, e25, hkk, f0, f1, f2, f3]
      intro b9 hb9
      simp (maxSteps := 300000) (disch := omega) only [gs, gs2, gs3, ↓reduceIte, Nat.reduceEqDiff, Nat.mul_one, Nat.add_zero, Nat.zero_add, Nat.zero_mul, Int.toNat_natCast, Int.reduceToNat, Nat.reduceMul, Nat.reduceAdd, decide_true, decide_false, Bool.not_true, Bool.not_false, true_and, and_true, List.map_cons, List.map_nil, List.nil_append, List.cons_append, List.append_nil, Option.map_some, Option.bind_some, List.getElem?_cons_zero, List.getElem?_cons_succ, Bool.false_eq_true, not_true_eq_false, not_false_eq_true, List.contains_cons, List.contains_nil, Nat.reduceBEq, Bool.true_or, Bool.false_or, Bool.or_true, List.set_cons_zero, List.set_cons_succ, List.length_cons, List.length_nil, isLd, Bool.true_and, Bool.false_and, Bool.and_true, Bool.and_false, e1, e5, e7, e24, e25, f0, f1, f2, f3]
      refine st_fresh (vs := netC N A c) rfl rfl rfl (by intro v hv; simp [netC] at hv; rcases hv with rfl | rfl | rfl | rfl <;> rfl) ?_
      have s9 := Sub.put hb9 ⟨netC N A c, true⟩
      have g3 := rd_sub s9 f3
      simp (maxSteps := 300000) (disch := omega) only [gs, gs2, gs3, ↓reduceIte, Nat.reduceEqDiff, Nat.mul_one, Nat.add_zero, Nat.zero_add, Nat.zero_mul, Int.toNat_natCast, Int.reduceToNat, Nat.reduceMul, Nat.reduceAdd, decide_true, decide_false, Bool.not_true, Bool.not_false, true_and, and_true, List.map_cons, List.map_nil, List.nil_append, List.cons_append, List.append_nil, Option.map_some, Option.bind_some, List.getElem?_cons_zero, List.getElem?_cons_succ, Bool.false_eq_true, not_true_eq_false, not_false_eq_true, List.contains_cons, List.contains_nil, Nat.reduceBEq, Bool.true_or, Bool.false_or, Bool.or_true, List.set_cons_zero, List.set_cons_succ, List.length_cons, List.length_nil, isLd, Bool.true_and, Bool.false_and, Bool.and_true, Bool.and_false, e1, e5, e7, e24, e25, g3]
      refine slices_CloneArc_ok ((hA.sub hS).sub s9) (by omega) fun G3 A3 c3 hN3 => ?_
      simp (maxSteps := 300000) (disch := omega) only [gs, gs2, gs3, ↓reduceIte, Nat.reduceEqDiff, Nat.mul_one, Nat.add_zero, Nat.zero_add, Nat.zero_mul, Int.toNat_natCast, Int.reduceToNat, Nat.reduceMul, Nat.reduceAdd, decide_true, decide_false, Bool.not_true, Bool.not_false, true_and, and_true, List.map_cons, List.map_nil, List.nil_append, List.cons_append, List.append_nil, Option.map_some, Option.bind_some, List.getElem?_cons_zero, List.getElem?_cons_succ, Bool.false_eq_true, not_true_eq_false, not_false_eq_true, List.contains_cons, List.contains_nil, Nat.reduceBEq, Bool.true_or, Bool.false_or, Bool.or_true, List.set_cons_zero, List.set_cons_succ, List.length_cons, List.length_nil, isLd, Bool.true_and, Bool.false_and, Bool.and_true, Bool.and_false, e1, e5, e7, e24, e25]
      obtain ⟨bC, r, rfl, hne, nC, h9, hC, hlC, hcC, s3⟩ := own_arcs (N := N) (by omega) hb9 hN3
      refine st_one h9 (by simp [netC]) rfl ?_
      have hset : (netC N A c).set 3 (.slice (some ⟨bC, 0, none⟩) N.arcs.length c3) = netC N (some ⟨bC, 0, none⟩) c3 := rfl
      rw [hset]
      have s4 := s3.skip (e := ⟨netC N (some ⟨bC, 0, none⟩) c3, true⟩) hb9
      have h9 := put_same G3 b9 ⟨netC N (some ⟨bC, 0, none⟩) c3, true⟩
      revert hC s4 h9
      generalize put G3 b9 ⟨netC N (some ⟨bC, 0, none⟩) c3, true⟩ = H1
      intro hC s4 h9
      have g3 : rd H1 (some ⟨b9, 3, none⟩) = some (.slice (some ⟨bC, 0, none⟩) N.arcs.length c3) := by simp only [rd, h9]; rfl
      simp (maxSteps := 300000) (disch := omega) only [gs, gs2, gs3, ↓reduceIte, Nat.reduceEqDiff, Nat.mul_one, Nat.add_zero, Nat.zero_add, Nat.zero_mul, Int.toNat_natCast, Int.reduceToNat, Nat.reduceMul, Nat.reduceAdd, decide_true, decide_false, Bool.not_true, Bool.not_false, true_and, and_true, List.map_cons, List.map_nil, List.nil_append, List.cons_append, List.append_nil, Option.map_some, Option.bind_some, List.getElem?_cons_zero, List.getElem?_cons_succ, Bool.false_eq_true, not_true_eq_false, not_false_eq_true, List.contains_cons, List.contains_nil, Nat.reduceBEq, Bool.true_or, Bool.false_or, Bool.or_true, List.set_cons_zero, List.set_cons_succ, List.length_cons, List.length_nil, isLd, Bool.true_and, Bool.false_and, Bool.and_true, Bool.and_false, e1, e5, e7, e24, e25, g3]
      refine st_one hC (by omega) rfl ?_
      obtain ⟨s5, hP⟩ := less_mem (k := k) (by omega) hne hb9 nC h9 hC hcC s4
      revert s5 hP
      generalize put H1 bC ⟨(flat3 N.arcs ++ r).set (k * 3 + 2) (.int .i64 0), true⟩ = H2
      intro s5 hP
      have q0 : rd H2 (some ⟨b9, 0, none⟩) = some (.int .i64 (lessN N k).n) := hP.f0
      have q1 : rd H2 (some ⟨b9, 1, none⟩) = some (.int .i64 (lessN N k).s) := hP.f1
      have q2 : rd H2 (some ⟨b9, 2, none⟩) = some (.int .i64 (lessN N k).t) := hP.f2
      have q3 : rd H2 (some ⟨b9, 3, none⟩) = some (.slice (some ⟨bC, 0, none⟩) (lessN N k).arcs.length c3) := hP.f3
      simp (maxSteps := 300000) (disch := omega) only [gs, gs2, gs3, ↓reduceIte, Nat.reduceEqDiff, Nat.mul_one, Nat.add_zero, Nat.zero_add, Nat.zero_mul, Int.toNat_natCast, Int.reduceToNat, Nat.reduceMul, Nat.reduceAdd, decide_true, decide_false, Bool.not_true, Bool.not_false, true_and, and_true, List.map_cons, List.map_nil, List.nil_append, List.cons_append, List.append_nil, Option.map_some, Option.bind_some, List.getElem?_cons_zero, List.getElem?_cons_succ, Bool.false_eq_true, not_true_eq_false, not_false_eq_true, List.contains_cons, List.contains_nil, Nat.reduceBEq, Bool.true_or, Bool.false_or, Bool.or_true, List.set_cons_zero, List.set_cons_succ, List.length_cons, List.length_nil, isLd, Bool.true_and, Bool.false_and, Bool.and_true, Bool.and_false, e1, e5, e7, e24, e25, q0, q1, q2, q3]
      refine impl_GreatestFlow_ok (N := lessN N k) hP.arcs hr (by show (lessA N.arcs k).length < _; rw [lessA_len]; exact hl) fun G4 A4 c4 hN4 => ?_
      have s6 := s5.trans hN4.sub
      clear hN4
      rw [greatR_val (less_ok hn k)]
      simp (maxSteps := 300000) (disch := omega) only [gs, gs2, gs3, ↓reduceIte, Nat.reduceEqDiff, Nat.mul_one, Nat.add_zero, Nat.zero_add, Nat.zero_mul, Int.toNat_natCast, Int.reduceToNat, Nat.reduceMul, Nat.reduceAdd, decide_true, decide_false, Bool.not_true, Bool.not_false, true_and, and_true, List.map_cons, List.map_nil, List.nil_append, List.cons_append, List.append_nil, Option.map_some, Option.bind_some, List.getElem?_cons_zero, List.getElem?_cons_succ, Bool.false_eq_true, not_true_eq_false, not_false_eq_true, List.contains_cons, List.contains_nil, Nat.reduceBEq, Bool.true_or, Bool.false_or, Bool.or_true, List.set_cons_zero, List.set_cons_succ, List.length_cons, List.length_nil, isLd, Bool.true_and, Bool.false_and, Bool.and_true, Bool.and_false, e1, e5, e7, e24, e25]
      have hfl := filter_iota (narrB N) k
      by_cases hv : valN (lessN N k) < valN N
      · rw [if_pos (by unfold narrB; rw [Int.toNat_natCast]; simpa using hv)] at hfl
        simp (maxSteps := 300000) (disch := omega) only [gs, gs2, gs3, ↓reduceIte, Nat.reduceEqDiff, Nat.mul_one, Nat.add_zero, Nat.zero_add, Nat.zero_mul, Int.toNat_natCast, Int.reduceToNat, Nat.reduceMul, Nat.reduceAdd, decide_true, decide_false, Bool.not_true, Bool.not_false, true_and, and_true, List.map_cons, List.map_nil, List.nil_append, List.cons_append, List.append_nil, Option.map_some, Option.bind_some, List.getElem?_cons_zero, List.getElem?_cons_succ, Bool.false_eq_true, not_true_eq_false, not_false_eq_true, List.contains_cons, List.contains_nil, Nat.reduceBEq, Bool.true_or, Bool.false_or, Bool.or_true, List.set_cons_zero, List.set_cons_succ, List.length_cons, List.length_nil, isLd, Bool.true_and, Bool.false_and, Bool.and_true, Bool.and_false, e1, e5, e7, e24, e25, hv, gBs]
        refine ⟨by intro v hv; simp at hv; subst hv; rfl, fun b11 hb11 => ?_⟩
        refine ap_own ((hO.sub s6).sub (Sub.put hb11 _)) (cells_one [.int .i64 (k : Int)] true) (by rfl) (by intro v hv; simp at hv; subst hv; rfl) rfl (by omega) (by omega) (by omega) fun G'' A' c' hO' hG' => ?_
        simp (maxSteps := 300000) (disch := omega) only [gs, gs2, gs3, ↓reduceIte, Nat.reduceEqDiff, Nat.mul_one, Nat.add_zero, Nat.zero_add, Nat.zero_mul, Int.toNat_natCast, Int.reduceToNat, Nat.reduceMul, Nat.reduceAdd, decide_true, decide_false, Bool.not_true, Bool.not_false, true_and, and_true, List.map_cons, List.map_nil, List.nil_append, List.cons_append, List.append_nil, Option.map_some, Option.bind_some, List.getElem?_cons_zero, List.getElem?_cons_succ, Bool.false_eq_true, not_true_eq_false, not_false_eq_true, List.contains_cons, List.contains_nil, Nat.reduceBEq, Bool.true_or, Bool.false_or, Bool.or_true, List.set_cons_zero, List.set_cons_succ, List.length_cons, List.length_nil, isLd, Bool.true_and, Bool.false_and, Bool.and_true, Bool.and_false, e1, e5, e7, e24, e25]
        obtain ⟨t1, t2⟩ := hG' G2 ((hS.trans s6).trans (Sub.put hb11 _)) hOff
        exact ⟨m - 1, by omega, _, Sub.refl _, k + 1, A', c', by rw [hfl]; simp, rfl, by omega, by omega, by rw [hfl]; exact hO'.cast (by simp [I64]) (by simp), t1, t2⟩
      · rw [if_neg (by unfold narrB; rw [Int.toNat_natCast]; simpa using hv)] at hfl
        simp (maxSteps := 300000) (disch := omega) only [gs, gs2, gs3, ↓reduceIte, Nat.reduceEqDiff, Nat.mul_one, Nat.add_zero, Nat.zero_add, Nat.zero_mul, Int.toNat_natCast, Int.reduceToNat, Nat.reduceMul, Nat.reduceAdd, decide_true, decide_false, Bool.not_true, Bool.not_false, true_and, and_true, List.map_cons, List.map_nil, List.nil_append, List.cons_append, List.append_nil, Option.map_some, Option.bind_some, List.getElem?_cons_zero, List.getElem?_cons_succ, Bool.false_eq_true, not_true_eq_false, not_false_eq_true, List.contains_cons, List.contains_nil, Nat.reduceBEq, Bool.true_or, Bool.false_or, Bool.or_true, List.set_cons_zero, List.set_cons_succ, List.length_cons, List.length_nil, isLd, Bool.true_and, Bool.false_and, Bool.and_true, Bool.and_false, e1, e5, e7, e24, e25, hv]
        exact ⟨m - 1, by omega, _, Sub.refl _, k + 1, Ap, cp, by rw [hfl], rfl, by omega, by omega, by rw [hfl]; exact hO.sub s6, hS.trans s6, hOff⟩
    · simp (maxSteps := 300000) (disch := omega) only [gs, gs2, gs3, ↓reduceIte, Nat.reduceEqDiff, Nat.mul_one, Nat.add_zero, Nat.zero_add, Nat.zero_mul, Int.toNat_natCast, Int.reduceToNat, Nat.reduceMul, Nat.reduceAdd, decide_true, decide_false, Bool.not_true, Bool.not_false, true_and, and_true, List.map_cons, List.map_nil, List.nil_append, List.cons_append, List.append_nil, Option.map_some, Option.bind_some, List.getElem?_cons_zero, List.getElem?_cons_succ, Bool.false_eq_true, not_true_eq_false, not_false_eq_true, List.contains_cons, List.contains_nil, Nat.reduceBEq, Bool.true_or, Bool.false_or, Bool.or_true, List.set_cons_zero, List.set_cons_succ, List.length_cons, List.length_nil, isLd, Bool.true_and, Bool.false_and, Bool.and_true, Bool.and_false, e1, e5, e7, e24, e25, hkk]
      obtain rfl : k = N.arcs.length := by omega
      obtain ⟨G'', s3, hN⟩ := hO.new (s12.trans hS) (hOff.mono s12)
      exact ⟨G'', s3, hk _ _ _ hN⟩
  · rw [show greatR N = ([], 0, 1) from if_neg hn]
    simp (maxSteps := 300000) (disch := omega) only [gs, gs2, gs3, ↓reduceIte, Nat.reduceEqDiff, Nat.mul_one, Nat.add_zero, Nat.zero_add, Nat.zero_mul, Int.toNat_natCast, Int.reduceToNat, Nat.reduceMul, Nat.reduceAdd, decide_true, decide_false, Bool.not_true, Bool.not_false, true_and, and_true, List.map_cons, List.map_nil, List.nil_append, List.cons_append, List.append_nil, Option.map_some, Option.bind_some, List.getElem?_cons_zero, List.getElem?_cons_succ, Bool.false_eq_true, not_true_eq_false, not_false_eq_true, List.contains_cons, List.contains_nil, Nat.reduceBEq, Bool.true_or, Bool.false_or, Bool.or_true, List.set_cons_zero, List.set_cons_succ, List.length_cons, List.length_nil, isLd, Bool.true_and, Bool.false_and, Bool.and_true, Bool.and_false, show ((1 : Int) = 0) = False from eq_false (by decide)]
    exact ⟨G, s12, hk.err (if_neg hn)⟩
theorem exc_less (es : List T3) (fl : List Int) (k : Nat) (v : Int) : ∀ m : Nat, m ≤ es.length → exc (lessA es k) fl v m = exc es fl v m
  | 0, _ => rfl
  | m + 1, h => by
    obtain ⟨e1, e2, _⟩ := lessA_get es k m (by omega)
    rw [exc, exc, exc_less es fl k v m (by omega), e1, e2]
theorem valN_nn {N : Net} (hn : NetOk N) : 0 ≤ valN N := by
  have := great_most hn (cap_zero hn) (fun v _ _ _ _ => exc_zero _ _ _ _)
  rw [exc_zero] at this; exact this
theorem narr_pos {N : Net} (hn : NetOk N) {i : Nat} (hi : i < N.arcs.length) (h : valN (lessN N i) < valN N) : 1 ≤ (greatV N).getD i 0 := by
  obtain ⟨hc, hk, _⟩ := greatV_all hn
  rcases Int.lt_or_le ((greatV N).getD i 0) 1 with h1 | h1
  · have h0 := hc.2 i hi
    have hz : (greatV N).getD i 0 = 0 := by omega
    have hl := lessA_len N.arcs i
    have hc' : Cap (lessN N i).arcs (greatV N) := ⟨by rw [show (lessN N i).arcs = lessA N.arcs i from rfl, hl]; exact hc.1, fun j hj => by
      have hj' : j < N.arcs.length := by rw [show (lessN N i).arcs = lessA N.arcs i from rfl, hl] at hj; exact hj
      have hcj := hc.2 j hj'
      show 0 ≤ (greatV N).getD j 0 ∧ (greatV N).getD j 0 ≤ ((lessA N.arcs i).getD j z3).2.2
      unfold lessA
      rw [getD_set3 _ _ _ _ hj']
      by_cases hij : i = j
      · subst hij; rw [if_pos rfl]; dsimp only; omega
      · rw [if_neg hij]; exact hcj⟩
    have hk' : Cons (lessN N i) (greatV N) := fun v v0 v1 vs vt => by
      show exc (lessA N.arcs i) (greatV N) v (lessA N.arcs i).length = 0
      rw [hl, exc_less _ _ _ _ _ (Nat.le_refl _)]
      exact hk v v0 v1 vs vt
    have := great_most (less_ok hn i) hc' hk'
    have e : exc (lessN N i).arcs (greatV N) (lessN N i).t (lessN N i).arcs.length = valN N := by
      show exc (lessA N.arcs i) (greatV N) N.t (lessA N.arcs i).length = _
      rw [hl, exc_less _ _ _ _ _ (Nat.le_refl _)]; rfl
    rw [e] at this
    unfold valN at h this
    omega
  · exact h1
theorem narr_mem {N : Net} {x : Int} (h : x ∈ narrA N) : 0 ≤ x ∧ x < N.arcs.length ∧ valN (lessN N x.toNat) < valN N := by
  unfold narrA iota at h
  obtain ⟨h1, h2⟩ := List.mem_filter.1 h
  obtain ⟨i, hi, rfl⟩ := List.mem_map.1 h1
  have hi := List.mem_range.1 hi
  exact ⟨by omega, by omega, by simpa [narrB] using h2⟩
theorem narr_zero {N : Net} (hn : NetOk N) (h : valN N = 0) : (narrA N).length = 0 := by
  rcases Nat.eq_zero_or_pos (narrA N).length with h0 | h0
  · exact h0
  · have := narr_mem (List.getElem_mem h0)
    have := valN_nn (less_ok hn ((narrA N)[0]).toNat)
    omega
theorem narr_get {N : Net} (hn : NetOk N) {k : Nat} (hk : k < (narrA N).length) : 0 ≤ (narrA N).getD k 0 ∧ (narrA N).getD k 0 < N.arcs.length ∧ 1 ≤ (greatV N).getD ((narrA N).getD k 0).toNat 0 := by
  have e : (narrA N).getD k 0 = (narrA N)[k] := by simp [List.getD, hk]
  obtain ⟨h1, h2, h3⟩ := narr_mem (List.getElem_mem hk)
  rw [e]
  exact ⟨h1, h2, narr_pos hn (by omega) h3⟩
theorem narr_asc (N : Net) {k : Nat} (h0 : 0 < k) (hk : k < (narrA N).length) : (narrA N).getD (k - 1) 0 < (narrA N).getD k 0 := by
  have := List.pairwise_iff_getElem.1 ((iota_pw N.arcs.length).filter (narrB N)) (k - 1) k (by unfold narrA at hk; omega) (by unfold narrA at hk; omega) (by omega)
  unfold narrA at hk ⊢
  simp only [List.getD]
  rw [List.getElem?_eq_getElem (by omega), List.getElem?_eq_getElem hk]
  simpa using this
/-- one cell of one's own block is written: all else stays. -/
def Keep (b : Nat) (G G' : GH) : Prop := ∀ x, x ≠ b → G' x = G x
theorem sub_keep {b : Nat} {G G' H : GH} (h : Keep b G G') (hb : H b = none) (s : Sub H G) : Sub H G' := fun x e hx => by
  have : x ≠ b := fun e' => by rw [e', hb] at hx; cases hx
  rw [h x this]; exact s x e hx
/-- bytes in memory. -/
structure BytS (G : GH) (A : Option Addr) (L c : Nat) : Prop where
  cap : L ≤ c
  rd : ∀ i, i < L → ∃ z : Int, 0 ≤ z ∧ z ≤ 255 ∧ rd G (pa A i) = some (.int .u8 z)
theorem BytS.sub {G G' : GH} {A : Option Addr} {L c : Nat} (h : BytS G A L c) (s : Sub G G') : BytS G' A L c := ⟨h.cap, fun i hi => by
  obtain ⟨z, h0, h1, h2⟩ := h.rd i hi
  exact ⟨z, h0, h1, rd_sub s h2⟩⟩
/-- a source: a block of one's own, of which only this is known; H is what else is known. -/
structure Src (H G : GH) (b : Nat) (A : Option Addr) (L c p : Nat) : Prop where
  sub : Sub H G
  nb : H b = none
  byt : BytS H A L c
  ex : ∃ (p' : Nat) (st : Int), p' ≤ p ∧ G b = some ⟨[.slice A L c, .int .i64 p', .int .u64 st], true⟩
theorem Src.le {H G : GH} {b : Nat} {A : Option Addr} {L c p p' : Nat} (h : Src H G b A L c p) (hp : p ≤ p') : Src H G b A L c p' := by
  obtain ⟨q, st, h1, h2⟩ := h.ex
  exact ⟨h.sub, h.nb, h.byt, q, st, by omega, h2⟩
theorem Src.ne {H G : GH} {b x : Nat} {A : Option Addr} {L c p : Nat} (h : Src H G b A L c p) (hx : G x = none) : x ≠ b := by
  obtain ⟨q, st, h1, h2⟩ := h.ex
  exact fun e => by rw [e, h2] at hx; cases hx
/-- a new block beside it. -/
theorem Src.box {H G : GH} {b x : Nat} {A : Option Addr} {L c p : Nat} (h : Src H G b A L c p) (hx : G x = none) (e : Ent) : Src (put H x e) (put G x e) b A L c p := by
  have hne := h.ne hx
  obtain ⟨q, st, h1, h2⟩ := h.ex
  exact ⟨h.sub.both, by rw [put_ne _ _ hne.symm]; exact h.nb, h.byt.sub (Sub.put (h.sub.none hx) _), q, st, h1, by rw [put_ne _ _ hne.symm]; exact h2⟩
theorem Src.low {H H' G : GH} {b : Nat} {A : Option Addr} {L c p : Nat} (h : Src H G b A L c p) (s : Sub H' H) (hb : BytS H' A L c) : Src H' G b A L c p := ⟨s.trans h.sub, s.none h.nb, hb, h.ex⟩
theorem shr40 (st : Int) : binV .shr (.int .u64 st) (.int .u64 40) = some (.int .u64 (st.fdiv (2 ^ 40))) := by
  simp [binV, binOp, Op.shift, pureOf, pure, IntKind.bits]
theorem and255 (x : Int) : ∃ z : Int, (0 ≤ z ∧ z ≤ 255) ∧ binV .and (.int .u64 x) (.int .u64 255) = some (.int .u64 z) := by
  have h2 : binV .and (.int .u64 x) (.int .u64 255) = some (.int .u64 (IntKind.u64.wrap ((BitVec.ofInt 64 x &&& BitVec.ofInt 64 255).toNat : Nat))) := rfl
  refine ⟨_, ?_, h2⟩
  have h1 : (BitVec.ofInt 64 x &&& BitVec.ofInt 64 255).toNat ≤ 255 := by
    rw [BitVec.toNat_and]
    exact Nat.le_trans Nat.and_le_right (by decide)
  generalize (BitVec.ofInt 64 x &&& BitVec.ofInt 64 255).toNat = w at *
  have : IntKind.u64.wrap (w : Int) = w := by
    simp [IntKind.wrap, IntKind.signed, IntKind.bits]
    omega
  rw [this]; omega
theorem rd_some' {G : GH} {A : Option Addr} {k : Nat} {v : Value} (h : rd G (pa A k) = some v) : 0 < sn A := by
  cases A with
  | none => cases h
  | some a => simp [sn]
theorem st_src {G : GH} {b o : Nat} {cs : List Value} {v : Value} {K : Value → GH → Prop} (h : G b = some ⟨cs, true⟩) (h1 : oneB v = true) (ho : o < cs.length) (hk : ∀ G', Keep b G G' → G' b = some ⟨cs.set o v, true⟩ → K undef G') : gSt 1 (.pointer (some ⟨b, o, none⟩)) v G K :=
  st_one h ho h1 (hk _ (fun y hy => put_ne _ _ hy) (put_same _ _ _))
theorem spec_next_ok {H G : GH} {b : Nat} {A : Option Addr} {L c p : Nat} (h : Src H G b A L c p) (hp : p < 2 ^ 40) {K : Value → GH → Prop}
    (hk : ∀ (v : Int) G', 0 ≤ v → v ≤ 255 → Src H G' b A L c (p + 1) → K (.int .i64 v) G') : GC Try.prog 249 [.pointer (some ⟨b, 0, none⟩)] G K := by
  refine c_spec_l00Src_next_i (by simp) ?_
  obtain ⟨p', st, hpp, hb⟩ := h.ex
  have r0 : rd G (some ⟨b, 0, none⟩) = some (.slice A L c) := by simp only [rd, hb]; rfl
  have r1 : rd G (some ⟨b, 1, none⟩) = some (.int .i64 p') := by simp only [rd, hb]; rfl
  have r2 : rd G (some ⟨b, 2, none⟩) = some (.int .u64 st) := by simp only [rd, hb]; rfl
  have fin : ∀ (st' : Int) (v : Int) (G' : GH), 0 ≤ v → v ≤ 255 → Keep b G G' → G' b = some ⟨[.slice A L c, .int .i64 ((p' : Int) + 1), .int .u64 st'], true⟩ → K (.int .i64 v) G' := fun st' v G' h0 h1 hK hb' =>
    hk v G' h0 h1 ⟨sub_keep hK h.nb h.sub, h.nb, h.byt, p' + 1, st', by omega, by rw [hb']; rfl⟩
  clear hk
  have hz := and255
  simp (maxSteps := 300000) (disch := omega) only [gs, gs2, gs3, ↓reduceIte, Nat.reduceEqDiff, Nat.mul_one, Nat.add_zero, Nat.zero_add, Nat.zero_mul, Int.toNat_natCast, Int.reduceToNat, Nat.reduceMul, Nat.reduceAdd, decide_true, decide_false, Bool.not_true, Bool.not_false, true_and, and_true, List.map_cons, List.map_nil, List.nil_append, List.cons_append, List.append_nil, Option.map_some, Option.bind_some, List.getElem?_cons_zero, List.getElem?_cons_succ, Bool.false_eq_true, not_true_eq_false, not_false_eq_true, List.contains_cons, List.contains_nil, Nat.reduceBEq, Bool.true_or, Bool.false_or, Bool.or_true, List.set_cons_zero, List.set_cons_succ, List.length_cons, List.length_nil, isLd, Bool.true_and, Bool.false_and, Bool.and_true, Bool.and_false, r0, r1, r2]
  by_cases hlt : (p' : Int) < L
  · obtain ⟨z, z0, z1, hz'⟩ := h.byt.rd p' (by omega)
    have hz' := rd_sub h.sub hz'
    have hsA : 0 < sn A := rd_some' hz'
    simp (maxSteps := 300000) (disch := omega) only [gs, gs2, gs3, ↓reduceIte, Nat.reduceEqDiff, Nat.mul_one, Nat.add_zero, Nat.zero_add, Nat.zero_mul, Int.toNat_natCast, Int.reduceToNat, Nat.reduceMul, Nat.reduceAdd, decide_true, decide_false, Bool.not_true, Bool.not_false, true_and, and_true, List.map_cons, List.map_nil, List.nil_append, List.cons_append, List.append_nil, Option.map_some, Option.bind_some, List.getElem?_cons_zero, List.getElem?_cons_succ, Bool.false_eq_true, not_true_eq_false, not_false_eq_true, List.contains_cons, List.contains_nil, Nat.reduceBEq, Bool.true_or, Bool.false_or, Bool.or_true, List.set_cons_zero, List.set_cons_succ, List.length_cons, List.length_nil, isLd, Bool.true_and, Bool.false_and, Bool.and_true, Bool.and_false, r0, r1, r2, hlt, hz']
    refine st_src hb rfl (by simp) fun G2 hK1 hb1 => ?_
    simp only [List.set_cons_succ, List.set_cons_zero] at hb1
    have r0 : rd G2 (some ⟨b, 0, none⟩) = some (.slice A L c) := by simp only [rd, hb1]; rfl
    have r1 : rd G2 (some ⟨b, 1, none⟩) = some (.int .i64 ((p' : Int) + 1)) := by simp only [rd, hb1]; rfl
    have r2 : rd G2 (some ⟨b, 2, none⟩) = some (.int .u64 st) := by simp only [rd, hb1]; rfl
    simp (maxSteps := 300000) (disch := omega) only [gs, gs2, gs3, ↓reduceIte, Nat.reduceEqDiff, Nat.mul_one, Nat.add_zero, Nat.zero_add, Nat.zero_mul, Int.toNat_natCast, Int.reduceToNat, Nat.reduceMul, Nat.reduceAdd, decide_true, decide_false, Bool.not_true, Bool.not_false, true_and, and_true, List.map_cons, List.map_nil, List.nil_append, List.cons_append, List.append_nil, Option.map_some, Option.bind_some, List.getElem?_cons_zero, List.getElem?_cons_succ, Bool.false_eq_true, not_true_eq_false, not_false_eq_true, List.contains_cons, List.contains_nil, Nat.reduceBEq, Bool.true_or, Bool.false_or, Bool.or_true, List.set_cons_zero, List.set_cons_succ, List.length_cons, List.length_nil, isLd, Bool.true_and, Bool.false_and, Bool.and_true, Bool.and_false, r0, r1, r2]
    refine st_src hb1 rfl (by simp) fun G3 hK2 hb2 => ?_
    simp only [List.set_cons_succ, List.set_cons_zero] at hb2
    have hK3 : Keep b G G3 := fun x hx => (hK2 x hx).trans (hK1 x hx)
    obtain ⟨st', hb3⟩ : ∃ st', G3 b = some ⟨[.slice A L c, .int .i64 ((p' : Int) + 1), .int .u64 st'], true⟩ := ⟨_, hb2⟩
    clear hb2
    have r0 : rd G3 (some ⟨b, 0, none⟩) = some (.slice A L c) := by simp only [rd, hb3]; rfl
    have r1 : rd G3 (some ⟨b, 1, none⟩) = some (.int .i64 ((p' : Int) + 1)) := by simp only [rd, hb3]; rfl
    have r2 : rd G3 (some ⟨b, 2, none⟩) = some (.int .u64 st') := by simp only [rd, hb3]; rfl
    simp (maxSteps := 300000) (disch := omega) only [gs, gs2, gs3, ↓reduceIte, Nat.reduceEqDiff, Nat.mul_one, Nat.add_zero, Nat.zero_add, Nat.zero_mul, Int.toNat_natCast, Int.reduceToNat, Nat.reduceMul, Nat.reduceAdd, decide_true, decide_false, Bool.not_true, Bool.not_false, true_and, and_true, List.map_cons, List.map_nil, List.nil_append, List.cons_append, List.append_nil, Option.map_some, Option.bind_some, List.getElem?_cons_zero, List.getElem?_cons_succ, Bool.false_eq_true, not_true_eq_false, not_false_eq_true, List.contains_cons, List.contains_nil, Nat.reduceBEq, Bool.true_or, Bool.false_or, Bool.or_true, List.set_cons_zero, List.set_cons_succ, List.length_cons, List.length_nil, isLd, Bool.true_and, Bool.false_and, Bool.and_true, Bool.and_false, r0, r1, r2, show ((p' : Int) + 1 ≤ L) = True from eq_true (by omega)]
    exact fin st' z G3 z0 z1 hK3 hb3
  · simp (maxSteps := 300000) (disch := omega) only [gs, gs2, gs3, ↓reduceIte, Nat.reduceEqDiff, Nat.mul_one, Nat.add_zero, Nat.zero_add, Nat.zero_mul, Int.toNat_natCast, Int.reduceToNat, Nat.reduceMul, Nat.reduceAdd, decide_true, decide_false, Bool.not_true, Bool.not_false, true_and, and_true, List.map_cons, List.map_nil, List.nil_append, List.cons_append, List.append_nil, Option.map_some, Option.bind_some, List.getElem?_cons_zero, List.getElem?_cons_succ, Bool.false_eq_true, not_true_eq_false, not_false_eq_true, List.contains_cons, List.contains_nil, Nat.reduceBEq, Bool.true_or, Bool.false_or, Bool.or_true, List.set_cons_zero, List.set_cons_succ, List.length_cons, List.length_nil, isLd, Bool.true_and, Bool.false_and, Bool.and_true, Bool.and_false, r0, r1, r2, hlt]
    refine st_src hb rfl (by simp) fun G2 hK1 hb1 => ?_
    simp only [List.set_cons_succ, List.set_cons_zero] at hb1
    have r0 : rd G2 (some ⟨b, 0, none⟩) = some (.slice A L c) := by simp only [rd, hb1]; rfl
    have r1 : rd G2 (some ⟨b, 1, none⟩) = some (.int .i64 ((p' : Int) + 1)) := by simp only [rd, hb1]; rfl
    have r2 : rd G2 (some ⟨b, 2, none⟩) = some (.int .u64 st) := by simp only [rd, hb1]; rfl
    simp (maxSteps := 300000) (disch := omega) only [gs, gs2, gs3, ↓reduceIte, Nat.reduceEqDiff, Nat.mul_one, Nat.add_zero, Nat.zero_add, Nat.zero_mul, Int.toNat_natCast, Int.reduceToNat, Nat.reduceMul, Nat.reduceAdd, decide_true, decide_false, Bool.not_true, Bool.not_false, true_and, and_true, List.map_cons, List.map_nil, List.nil_append, List.cons_append, List.append_nil, Option.map_some, Option.bind_some, List.getElem?_cons_zero, List.getElem?_cons_succ, Bool.false_eq_true, not_true_eq_false, not_false_eq_true, List.contains_cons, List.contains_nil, Nat.reduceBEq, Bool.true_or, Bool.false_or, Bool.or_true, List.set_cons_zero, List.set_cons_succ, List.length_cons, List.length_nil, isLd, Bool.true_and, Bool.false_and, Bool.and_true, Bool.and_false, r0, r1, r2]
    refine st_src hb1 rfl (by simp) fun G3 hK2 hb2 => ?_
    simp only [List.set_cons_succ, List.set_cons_zero] at hb2
    have hK3 : Keep b G G3 := fun x hx => (hK2 x hx).trans (hK1 x hx)
    obtain ⟨st', hb3⟩ : ∃ st', G3 b = some ⟨[.slice A L c, .int .i64 ((p' : Int) + 1), .int .u64 st'], true⟩ := ⟨_, hb2⟩
    clear hb2
    have r0 : rd G3 (some ⟨b, 0, none⟩) = some (.slice A L c) := by simp only [rd, hb3]; rfl
    have r1 : rd G3 (some ⟨b, 1, none⟩) = some (.int .i64 ((p' : Int) + 1)) := by simp only [rd, hb3]; rfl
    have r2 : rd G3 (some ⟨b, 2, none⟩) = some (.int .u64 st') := by simp only [rd, hb3]; rfl
    obtain ⟨z, ⟨z0, z1⟩, hz'⟩ := hz (st'.fdiv (2 ^ 40))
    simp (maxSteps := 300000) (disch := omega) only [gs, gs2, gs3, ↓reduceIte, Nat.reduceEqDiff, Nat.mul_one, Nat.add_zero, Nat.zero_add, Nat.zero_mul, Int.toNat_natCast, Int.reduceToNat, Nat.reduceMul, Nat.reduceAdd, decide_true, decide_false, Bool.not_true, Bool.not_false, true_and, and_true, List.map_cons, List.map_nil, List.nil_append, List.cons_append, List.append_nil, Option.map_some, Option.bind_some, List.getElem?_cons_zero, List.getElem?_cons_succ, Bool.false_eq_true, not_true_eq_false, not_false_eq_true, List.contains_cons, List.contains_nil, Nat.reduceBEq, Bool.true_or, Bool.false_or, Bool.or_true, List.set_cons_zero, List.set_cons_succ, List.length_cons, List.length_nil, isLd, Bool.true_and, Bool.false_and, Bool.and_true, Bool.and_false, r0, r1, r2, show ((p' : Int) + 1 ≤ L) = False from eq_false (by omega), shr40, hz']
    exact fin st' z G3 z0 z1 hK3 hb3
theorem spec_pick_ok {H G : GH} {b : Nat} {A : Option Addr} {L c p : Nat} (h : Src H G b A L c p) (hp : p + 2 < 2 ^ 40) {n : Int} (hn : n ≤ 10000) {K : Value → GH → Prop}
    (hk : ∀ (v : Int) G', 0 ≤ v → (1 ≤ n → v < n) → (n < 1 → v = 0) → Src H G' b A L c (p + 2) → K (.int .i64 v) G') : GC Try.prog 220 [.pointer (some ⟨b, 0, none⟩), .int .i64 n] G K := by
  refine c_spec_l00Src_pick_i (by simp) ?_
  simp (maxSteps := 300000) (disch := omega) only [gs, gs2, gs3, ↓reduceIte, Nat.reduceEqDiff, Nat.mul_one, Nat.add_zero, Nat.zero_add, Nat.zero_mul, Int.toNat_natCast, Int.reduceToNat, Nat.reduceMul, Nat.reduceAdd, decide_true, decide_false, Bool.not_true, Bool.not_false, true_and, and_true, List.map_cons, List.map_nil, List.nil_append, List.cons_append, List.append_nil, Option.map_some, Option.bind_some, List.getElem?_cons_zero, List.getElem?_cons_succ, Bool.false_eq_true, not_true_eq_false, not_false_eq_true, List.contains_cons, List.contains_nil, Nat.reduceBEq, Bool.true_or, Bool.false_or, Bool.or_true, List.set_cons_zero, List.set_cons_succ, List.length_cons, List.length_nil, isLd, Bool.true_and, Bool.false_and, Bool.and_true, Bool.and_false]
  by_cases h1 : n ≤ 1
  · simp (maxSteps := 300000) (disch := omega) only [gs, gs2, gs3, ↓reduceIte, Nat.reduceEqDiff, Nat.mul_one, Nat.add_zero, Nat.zero_add, Nat.zero_mul, Int.toNat_natCast, Int.reduceToNat, Nat.reduceMul, Nat.reduceAdd, decide_true, decide_false, Bool.not_true, Bool.not_false, true_and, and_true, List.map_cons, List.map_nil, List.nil_append, List.cons_append, List.append_nil, Option.map_some, Option.bind_some, List.getElem?_cons_zero, List.getElem?_cons_succ, Bool.false_eq_true, not_true_eq_false, not_false_eq_true, List.contains_cons, List.contains_nil, Nat.reduceBEq, Bool.true_or, Bool.false_or, Bool.or_true, List.set_cons_zero, List.set_cons_succ, List.length_cons, List.length_nil, isLd, Bool.true_and, Bool.false_and, Bool.and_true, Bool.and_false, h1]
    exact hk 0 G (by omega) (by omega) (fun _ => rfl) (h.le (by omega))
  · simp (maxSteps := 300000) (disch := omega) only [gs, gs2, gs3, ↓reduceIte, Nat.reduceEqDiff, Nat.mul_one, Nat.add_zero, Nat.zero_add, Nat.zero_mul, Int.toNat_natCast, Int.reduceToNat, Nat.reduceMul, Nat.reduceAdd, decide_true, decide_false, Bool.not_true, Bool.not_false, true_and, and_true, List.map_cons, List.map_nil, List.nil_append, List.cons_append, List.append_nil, Option.map_some, Option.bind_some, List.getElem?_cons_zero, List.getElem?_cons_succ, Bool.false_eq_true, not_true_eq_false, not_false_eq_true, List.contains_cons, List.contains_nil, Nat.reduceBEq, Bool.true_or, Bool.false_or, Bool.or_true, List.set_cons_zero, List.set_cons_succ, List.length_cons, List.length_nil, isLd, Bool.true_and, Bool.false_and, Bool.and_true, Bool.and_false, h1]
    refine spec_next_ok h (by omega) fun v G2 v0 v1 h2 => ?_
    simp (maxSteps := 300000) (disch := omega) only [gs, gs2, gs3, ↓reduceIte, Nat.reduceEqDiff, Nat.mul_one, Nat.add_zero, Nat.zero_add, Nat.zero_mul, Int.toNat_natCast, Int.reduceToNat, Nat.reduceMul, Nat.reduceAdd, decide_true, decide_false, Bool.not_true, Bool.not_false, true_and, and_true, List.map_cons, List.map_nil, List.nil_append, List.cons_append, List.append_nil, Option.map_some, Option.bind_some, List.getElem?_cons_zero, List.getElem?_cons_succ, Bool.false_eq_true, not_true_eq_false, not_false_eq_true, List.contains_cons, List.contains_nil, Nat.reduceBEq, Bool.true_or, Bool.false_or, Bool.or_true, List.set_cons_zero, List.set_cons_succ, List.length_cons, List.length_nil, isLd, Bool.true_and, Bool.false_and, Bool.and_true, Bool.and_false]
    have fin : ∀ (x : Int) G', 0 ≤ x → Src H G' b A L c (p + 2) → K (.int .i64 (x.tmod n)) G' := fun x G' x0 h' => by
      have e1 := Int.tmod_nonneg n x0
      have e2 := Int.tmod_lt_of_pos x (show 0 < n by omega)
      exact hk _ G' e1 (fun _ => e2) (fun y => by omega) h'
    have hrem := fun x : Int => bin_rem .i64 x n (by omega)
    by_cases h3 : 200 < n
    · simp (maxSteps := 300000) (disch := omega) only [gs, gs2, gs3, ↓reduceIte, Nat.reduceEqDiff, Nat.mul_one, Nat.add_zero, Nat.zero_add, Nat.zero_mul, Int.toNat_natCast, Int.reduceToNat, Nat.reduceMul, Nat.reduceAdd, decide_true, decide_false, Bool.not_true, Bool.not_false, true_and, and_true, List.map_cons, List.map_nil, List.nil_append, List.cons_append, List.append_nil, Option.map_some, Option.bind_some, List.getElem?_cons_zero, List.getElem?_cons_succ, Bool.false_eq_true, not_true_eq_false, not_false_eq_true, List.contains_cons, List.contains_nil, Nat.reduceBEq, Bool.true_or, Bool.false_or, Bool.or_true, List.set_cons_zero, List.set_cons_succ, List.length_cons, List.length_nil, isLd, Bool.true_and, Bool.false_and, Bool.and_true, Bool.and_false, h3]
      refine spec_next_ok h2 (by omega) fun w G3 w0 w1 h4 => ?_
      simp (maxSteps := 300000) (disch := omega) only [gs, gs2, gs3, ↓reduceIte, Nat.reduceEqDiff, Nat.mul_one, Nat.add_zero, Nat.zero_add, Nat.zero_mul, Int.toNat_natCast, Int.reduceToNat, Nat.reduceMul, Nat.reduceAdd, decide_true, decide_false, Bool.not_true, Bool.not_false, true_and, and_true, List.map_cons, List.map_nil, List.nil_append, List.cons_append, List.append_nil, Option.map_some, Option.bind_some, List.getElem?_cons_zero, List.getElem?_cons_succ, Bool.false_eq_true, not_true_eq_false, not_false_eq_true, List.contains_cons, List.contains_nil, Nat.reduceBEq, Bool.true_or, Bool.false_or, Bool.or_true, List.set_cons_zero, List.set_cons_succ, List.length_cons, List.length_nil, isLd, Bool.true_and, Bool.false_and, Bool.and_true, Bool.and_false, hrem]
      exact fin _ G3 (by omega) h4
    · simp (maxSteps := 300000) (disch := omega) only [gs, gs2, gs3, ↓reduceIte, Nat.reduceEqDiff, Nat.mul_one, Nat.add_zero, Nat.zero_add, Nat.zero_mul, Int.toNat_natCast, Int.reduceToNat, Nat.reduceMul, Nat.reduceAdd, decide_true, decide_false, Bool.not_true, Bool.not_false, true_and, and_true, List.map_cons, List.map_nil, List.nil_append, List.cons_append, List.append_nil, Option.map_some, Option.bind_some, List.getElem?_cons_zero, List.getElem?_cons_succ, Bool.false_eq_true, not_true_eq_false, not_false_eq_true, List.contains_cons, List.contains_nil, Nat.reduceBEq, Bool.true_or, Bool.false_or, Bool.or_true, List.set_cons_zero, List.set_cons_succ, List.length_cons, List.length_nil, isLd, Bool.true_and, Bool.false_and, Bool.and_true, Bool.and_false, h3, hrem]
      exact fin _ G2 v0 (h2.le (by omega))
theorem spec_one_ok {H G : GH} {b : Nat} {A : Option Addr} {L c p : Nat} (h : Src H G b A L c p) (hp : p + 2 < 2 ^ 40) {n : Int} (hn : n ≤ 10000) {K : Value → GH → Prop}
    (hk : ∀ (v : Bool) G', Src H G' b A L c (p + 2) → K (.bool v) G') : GC Try.prog 221 [.pointer (some ⟨b, 0, none⟩), .int .i64 n] G K := by
  refine c_spec_l00Src_one_i (by simp) ?_
  simp (maxSteps := 300000) (disch := omega) only [gs, gs2, gs3, ↓reduceIte, Nat.reduceEqDiff, Nat.mul_one, Nat.add_zero, Nat.zero_add, Nat.zero_mul, Int.toNat_natCast, Int.reduceToNat, Nat.reduceMul, Nat.reduceAdd, decide_true, decide_false, Bool.not_true, Bool.not_false, true_and, and_true, List.map_cons, List.map_nil, List.nil_append, List.cons_append, List.append_nil, Option.map_some, Option.bind_some, List.getElem?_cons_zero, List.getElem?_cons_succ, Bool.false_eq_true, not_true_eq_false, not_false_eq_true, List.contains_cons, List.contains_nil, Nat.reduceBEq, Bool.true_or, Bool.false_or, Bool.or_true, List.set_cons_zero, List.set_cons_succ, List.length_cons, List.length_nil, isLd, Bool.true_and, Bool.false_and, Bool.and_true, Bool.and_false]
  refine spec_pick_ok h hp hn fun v G2 _ _ _ h2 => ?_
  simp (maxSteps := 300000) (disch := omega) only [gs, gs2, gs3, ↓reduceIte, Nat.reduceEqDiff, Nat.mul_one, Nat.add_zero, Nat.zero_add, Nat.zero_mul, Int.toNat_natCast, Int.reduceToNat, Nat.reduceMul, Nat.reduceAdd, decide_true, decide_false, Bool.not_true, Bool.not_false, true_and, and_true, List.map_cons, List.map_nil, List.nil_append, List.cons_append, List.append_nil, Option.map_some, Option.bind_some, List.getElem?_cons_zero, List.getElem?_cons_succ, Bool.false_eq_true, not_true_eq_false, not_false_eq_true, List.contains_cons, List.contains_nil, Nat.reduceBEq, Bool.true_or, Bool.false_or, Bool.or_true, List.set_cons_zero, List.set_cons_succ, List.length_cons, List.length_nil, isLd, Bool.true_and, Bool.false_and, Bool.and_true, Bool.and_false]
  exact hk _ G2 h2
theorem spec_among_ok {H G : GH} {b : Nat} {A B : Option Addr} {L c p d : Nat} {xs : List Int} (h : Src H G b A L c p) (hp : p + 2 < 2 ^ 40) (hx : IntS H B d xs) (hl : 1 ≤ xs.length) (hl2 : xs.length ≤ 10000) {K : Value → GH → Prop}
    (hk : ∀ (v : Int) G', v ∈ xs → Src H G' b A L c (p + 2) → K (.int .i64 v) G') : GC Try.prog 157 [.pointer (some ⟨b, 0, none⟩), .slice B xs.length d] G K := by
  refine c_spec_l00Src_among_i (by simp) ?_
  simp (maxSteps := 300000) (disch := omega) only [gs, gs2, gs3, ↓reduceIte, Nat.reduceEqDiff, Nat.mul_one, Nat.add_zero, Nat.zero_add, Nat.zero_mul, Int.toNat_natCast, Int.reduceToNat, Nat.reduceMul, Nat.reduceAdd, decide_true, decide_false, Bool.not_true, Bool.not_false, true_and, and_true, List.map_cons, List.map_nil, List.nil_append, List.cons_append, List.append_nil, Option.map_some, Option.bind_some, List.getElem?_cons_zero, List.getElem?_cons_succ, Bool.false_eq_true, not_true_eq_false, not_false_eq_true, List.contains_cons, List.contains_nil, Nat.reduceBEq, Bool.true_or, Bool.false_or, Bool.or_true, List.set_cons_zero, List.set_cons_succ, List.length_cons, List.length_nil, isLd, Bool.true_and, Bool.false_and, Bool.and_true, Bool.and_false]
  refine spec_pick_ok h hp (by omega) fun v G2 v0 v1 _ h2 => ?_
  have hv := v1 (by omega)
  have q := (hx.sub h2.sub).rd v.toNat (by omega)
  have hsB := hx.sn (by omega)
  simp (maxSteps := 300000) (disch := omega) only [gs, gs2, gs3, ↓reduceIte, Nat.reduceEqDiff, Nat.mul_one, Nat.add_zero, Nat.zero_add, Nat.zero_mul, Int.toNat_natCast, Int.reduceToNat, Nat.reduceMul, Nat.reduceAdd, decide_true, decide_false, Bool.not_true, Bool.not_false, true_and, and_true, List.map_cons, List.map_nil, List.nil_append, List.cons_append, List.append_nil, Option.map_some, Option.bind_some, List.getElem?_cons_zero, List.getElem?_cons_succ, Bool.false_eq_true, not_true_eq_false, not_false_eq_true, List.contains_cons, List.contains_nil, Nat.reduceBEq, Bool.true_or, Bool.false_or, Bool.or_true, List.set_cons_zero, List.set_cons_succ, List.length_cons, List.length_nil, isLd, Bool.true_and, Bool.false_and, Bool.and_true, Bool.and_false, q]
  exact hk _ G2 (by
    have : v.toNat < xs.length := by omega
    simp [List.getD, this]) h2
structure ArcP (n i j : Int) (es : List T3) : Prop where
  ok : ∀ k, k < es.length → okArc (n - 1) (es.getD k z3)
  lt : ∀ k, k + 1 < es.length → ltArc (es.getD k z3) (es.getD (k + 1) z3)
  at' : ∀ k, k < es.length → (es.getD k z3).1 < i ∨ ((es.getD k z3).1 = i ∧ (es.getD k z3).2.1 < j)
  len : es.length ≤ 24
theorem ArcP.nil (n i j : Int) : ArcP n i j [] := ⟨fun k h => by simp at h, fun k h => by simp at h, fun k h => by simp at h, by simp⟩
theorem ArcP.next {n i j : Int} {es : List T3} (h : ArcP n i j es) : ArcP n i (j + 1) es := ⟨h.ok, h.lt, fun k hk => by have := h.at' k hk; omega, h.len⟩
theorem ArcP.row {n i j : Int} {es : List T3} (h : ArcP n i j es) : ArcP n (i + 1) 0 es := ⟨h.ok, h.lt, fun k hk => by have := h.at' k hk; omega, h.len⟩
theorem getD_snoc (es : List T3) (e : T3) (k : Nat) (h : k < es.length + 1) : (es ++ [e]).getD k z3 = if k < es.length then es.getD k z3 else e := by
  simp only [List.getD]
  by_cases hk : k < es.length
  · rw [if_pos hk, List.getElem?_append_left hk]
  · obtain rfl : k = es.length := by omega
    rw [if_neg hk]; simp
theorem ArcP.snoc {n i j w : Int} {es : List T3} (h : ArcP n i j es) (hl : es.length < 24) (hi : 0 ≤ i ∧ i < n) (hj : 0 ≤ j ∧ j < n) (hij : i ≠ j) (hw : 0 ≤ w ∧ w ≤ 1000000) : ArcP n i (j + 1) (es ++ [(i, j, w)]) := by
  refine ⟨fun k hk => ?_, fun k hk => ?_, fun k hk => ?_, by simp; omega⟩
  · rw [List.length_append, List.length_singleton] at hk
    rw [getD_snoc _ _ _ hk]
    split
    · exact h.ok k (by omega)
    · unfold okArc; dsimp only; omega
  · rw [List.length_append, List.length_singleton] at hk
    rw [getD_snoc _ _ _ (by omega), getD_snoc _ _ _ hk, if_pos (by omega)]
    split
    · exact h.lt k (by omega)
    · have := h.at' k (by omega)
      unfold ltArc; dsimp only; exact this
  · rw [List.length_append, List.length_singleton] at hk
    rw [getD_snoc _ _ _ hk]
    split
    · have := h.at' k (by omega); omega
    · right; exact ⟨rfl, by dsimp only; omega⟩
def z4 : List Value := [.int .i64 0, .int .i64 0, .int .i64 0, .slice none 0 0]
structure DN (H0 G : GH) (b b2 b3 : Nat) (A : Option Addr) (L c p : Nat) (N : Net) (Ap : Option Addr) (cp : Nat) : Prop where
  src : Src H0 G b A L c p
  r2 : G b2 = some ⟨z4, true⟩
  r3 : G b3 = some ⟨netC N Ap cp, true⟩
  own : Own G Ap cp (flat3 N.arcs) 3 N.arcs.length
  n2 : H0 b2 = none
  n3 : H0 b3 = none
  off : Off H0 Ap
  d2 : b2 ≠ b
  d3 : b3 ≠ b
  d23 : b2 ≠ b3
  da : ∀ a, Ap = some a → a.block ≠ b ∧ a.block ≠ b2 ∧ a.block ≠ b3
theorem Src.all {H G : GH} {b : Nat} {A : Option Addr} {L c p : Nat} (h : Src H G b A L c p) : Src (del G b) G b A L c p := ⟨Sub.del _ _, del_none _ _, h.byt.sub (h.sub.in_del h.nb), h.ex⟩
theorem Own.del {G : GH} {A : Option Addr} {c sz n b : Nat} {cs : List Value} (h : Own G A c cs sz n) (hb : ∀ a, A = some a → a.block ≠ b) : Own (Gh.del G b) A c cs sz n := by
  rcases h with h | ⟨x, r, rfl, h2, h3⟩
  · exact .inl h
  · exact .inr ⟨x, r, rfl, by rw [del_ne _ (hb _ rfl)]; exact h2, h3⟩
theorem DN.step {H0 G G' : GH} {b b2 b3 : Nat} {A : Option Addr} {L c p p' : Nat} {N : Net} {Ap : Option Addr} {cp : Nat} (h : DN H0 G b b2 b3 A L c p N Ap cp) (s : Src (del G b) G' b A L c p') : DN H0 G' b b2 b3 A L c p' N Ap cp := by
  have hs := s.sub
  exact ⟨⟨(h.src.sub.in_del h.src.nb).trans hs, h.src.nb, h.src.byt, s.ex⟩, hs _ _ (by rw [del_ne _ h.d2]; exact h.r2), hs _ _ (by rw [del_ne _ h.d3]; exact h.r3), (h.own.del fun a ha => (h.da a ha).1).sub hs, h.n2, h.n3, h.off, h.d2, h.d3, h.d23, h.da⟩
theorem DN.box {H0 G : GH} {b b2 b3 x : Nat} {A : Option Addr} {L c p : Nat} {N : Net} {Ap : Option Addr} {cp : Nat} (h : DN H0 G b b2 b3 A L c p N Ap cp) (hx : G x = none) (e : Ent) : DN H0 (put G x e) b b2 b3 A L c p N Ap cp := by
  have s := Sub.put hx e
  obtain ⟨q, st, h1, h2⟩ := h.src.ex
  exact ⟨⟨h.src.sub.trans s, h.src.nb, h.src.byt, q, st, h1, s _ _ h2⟩, s _ _ h.r2, s _ _ h.r3, h.own.sub s, h.n2, h.n3, h.off, h.d2, h.d3, h.d23, h.da⟩
theorem DN.le {H0 G : GH} {b b2 b3 : Nat} {A : Option Addr} {L c p p' : Nat} {N : Net} {Ap : Option Addr} {cp : Nat} (h : DN H0 G b b2 b3 A L c p N Ap cp) (hp : p ≤ p') : DN H0 G b b2 b3 A L c p' N Ap cp := ⟨h.src.le hp, h.r2, h.r3, h.own, h.n2, h.n3, h.off, h.d2, h.d3, h.d23, h.da⟩
theorem DN.rd {H0 G : GH} {b b2 b3 : Nat} {A : Option Addr} {L c p : Nat} {N : Net} {Ap : Option Addr} {cp : Nat} (h : DN H0 G b b2 b3 A L c p N Ap cp) : rd G (some ⟨b3, 0, none⟩) = some (.int .i64 N.n) ∧ rd G (some ⟨b3, 1, none⟩) = some (.int .i64 N.s) ∧ rd G (some ⟨b3, 2, none⟩) = some (.int .i64 N.t) ∧ rd G (some ⟨b3, 3, none⟩) = some (.slice Ap N.arcs.length cp) := by
  simp only [Gh.rd, h.r3, Option.bind_some, netC]; exact ⟨rfl, rfl, rfl, rfl⟩
/-- the heap without the block of a list. -/
def wo (G : GH) (A : Option Addr) : GH := fun x => if A.map (·.block) = some x then none else G x
theorem Sub.wo (G : GH) (A : Option Addr) : Sub (Gh.wo G A) G := fun x e h => by
  unfold Gh.wo at h; split at h
  · cases h
  · exact h
theorem Off.wo (G : GH) (A : Option Addr) : Off (Gh.wo G A) A := fun a ha => by unfold Gh.wo; rw [if_pos (by rw [ha]; rfl)]
theorem wo_ne {G : GH} {A : Option Addr} {x : Nat} (h : ∀ a, A = some a → a.block ≠ x) : wo G A x = G x := by
  unfold wo; rw [if_neg]
  cases A with
  | none => simp
  | some a => simp; exact h a rfl
/-- a longer list, and its new place in the box. -/
theorem DN.grow {H0 G G' : GH} {b b2 b3 : Nat} {A : Option Addr} {L c p : Nat} {n s t : Int} {es es' : List T3} {Ap A' : Option Addr} {cp c' : Nat} (h : DN H0 G b b2 b3 A L c p ⟨n, s, t, es⟩ Ap cp) (ho : Own G' A' c' (flat3 es') 3 es'.length) (hs : Sub (wo G Ap) G') (hf : Off (wo G Ap) A') :
    DN H0 (put G' b3 ⟨netC ⟨n, s, t, es'⟩ A' c', true⟩) b b2 b3 A L c p ⟨n, s, t, es'⟩ A' c' ∧ G' b3 = some ⟨netC ⟨n, s, t, es⟩ Ap cp, true⟩ := by
  obtain ⟨q, st, h1, h2⟩ := h.src.ex
  have k : ∀ x e, G x = some e → (∀ a, Ap = some a → a.block ≠ x) → G' x = some e ∧ ∀ a, A' = some a → a.block ≠ x := fun x e hx hne => by
    have hw : wo G Ap x = some e := by rw [wo_ne hne]; exact hx
    refine ⟨hs _ _ hw, fun a ha e' => ?_⟩
    have := hf a ha
    rw [e', hw] at this; cases this
  obtain ⟨kb, ab⟩ := k b _ h2 (fun a ha => (h.da a ha).1)
  obtain ⟨k2, a2⟩ := k b2 _ h.r2 (fun a ha => (h.da a ha).2.1)
  obtain ⟨k3, a3⟩ := k b3 _ h.r3 (fun a ha => (h.da a ha).2.2)
  have s0 : Sub H0 (wo G Ap) := fun x e hx => by
    rw [wo_ne fun a ha e' => by have := h.off a ha; rw [e', hx] at this; cases this]
    exact h.src.sub _ _ hx
  refine ⟨⟨⟨(s0.trans hs).skip h.n3, h.src.nb, h.src.byt, q, st, h1, by rw [put_ne _ _ h.d3.symm]; exact kb⟩, by rw [put_ne _ _ h.d23]; exact k2, put_same _ _ _, ?_, h.n2, h.n3, hf.mono s0, h.d2, h.d3, h.d23, fun a ha => ⟨ab a ha, a2 a ha, a3 a ha⟩⟩, k3⟩
  rcases ho with ho | ⟨x, r, rfl, hx, hr⟩
  · exact .inl ho
  · exact .inr ⟨x, r, rfl, by rw [put_ne _ _ (a3 _ rfl)]; exact hx, hr⟩
theorem DN.set {H0 G : GH} {b b2 b3 : Nat} {A : Option Addr} {L c p : Nat} {n s t : Int} {es : List T3} {Ap : Option Addr} {cp : Nat} (h : DN H0 G b b2 b3 A L c p ⟨n, s, t, es⟩ Ap cp) (s' t' : Int) : DN H0 (put G b3 ⟨netC ⟨n, s', t', es⟩ Ap cp, true⟩) b b2 b3 A L c p ⟨n, s', t', es⟩ Ap cp := by
  obtain ⟨q, st, h1, h2⟩ := h.src.ex
  refine ⟨⟨h.src.sub.skip h.n3, h.src.nb, h.src.byt, q, st, h1, by rw [put_ne _ _ h.d3.symm]; exact h2⟩, by rw [put_ne _ _ h.d23]; exact h.r2, put_same _ _ _, ?_, h.n2, h.n3, h.off, h.d2, h.d3, h.d23, h.da⟩
  rcases h.own with ho | ⟨x, r, rfl, hx, hr⟩
  · exact .inl ho
  · exact .inr ⟨x, r, rfl, by rw [put_ne _ _ (h.da _ rfl).2.2]; exact hx, hr⟩
theorem st_box {G : GH} {b o : Nat} {cs : List Value} {v : Value} {K : Value → GH → Prop} (h : G b = some ⟨cs, true⟩) (h1 : oneB v = true) (ho : o < cs.length) (cs' : List Value) (hc : cs.set o v = cs') (hk : K undef (put G b ⟨cs', true⟩)) : gSt 1 (.pointer (some ⟨b, o, none⟩)) v G K :=
  st_one h ho h1 (by rw [hc]; exact hk)
theorem draw_l1 {H0 G : GH} {b b2 b3 : Nat} {A : Option Addr} {L c p : Nat} {n s t : Int} {T : Nat → Value} {Q : Cont} (hp : p ≤ 2000) (hn : 2 ≤ n ∧ n ≤ 6) (hD : DN H0 G b b2 b3 A L c p ⟨n, s, t, []⟩ none 0)
    (x0 : T 0 = .pointer (some ⟨b, 0, none⟩)) (x2 : T 2 = .pointer (some ⟨b2, 0, none⟩)) (x3 : T 3 = .pointer (some ⟨b3, 0, none⟩)) (x4 : T 4 = .int .i64 0)
    (hQ : ∀ T G' es Ap cp p', T 2 = .pointer (some ⟨b2, 0, none⟩) → T 3 = .pointer (some ⟨b3, 0, none⟩) → ArcP n n 0 es → DN H0 G' b b2 b3 A L c p' ⟨n, s, t, es⟩ Ap cp → Q (.ex 0) T G') : gLoop (gW Try.prog c_spec_l19Draw_l1) Q T G := by
  refine gLoop_intro (fun m T G' => ∃ (i : Nat) (es : List T3) (Ap : Option Addr) (cp : Nat), T 0 = .pointer (some ⟨b, 0, none⟩) ∧ T 2 = .pointer (some ⟨b2, 0, none⟩) ∧ T 3 = .pointer (some ⟨b3, 0, none⟩) ∧ T 4 = .int .i64 i ∧ m + i = n.toNat ∧ i ≤ n.toNat ∧ ArcP n i 0 es ∧ DN H0 G' b b2 b3 A L c (p + 24 * i) ⟨n, s, t, es⟩ Ap cp)
    n.toNat ⟨0, [], none, 0, x0, x2, x3, x4, by omega, by omega, ArcP.nil _ _ _, hD⟩ ?_
  clear x0 x2 x3 x4 hD
  rintro m T G' ⟨i, es, Ap, cp, x0, x2, x3, x4, hm, him, hA, hD⟩
  obtain ⟨f0, f1, f2, f3⟩ := hD.rd
  dsimp only at f0 f1 f2 f3
  simp (maxSteps := 300000) (disch := omega) only [gs, gs2, gs3, ↓reduceIte, Nat.reduceEqDiff, Nat.mul_one, Nat.add_zero, Nat.zero_add, Nat.zero_mul, Int.toNat_natCast, Int.reduceToNat, Nat.reduceMul, Nat.reduceAdd, decide_true, decide_false, Bool.not_true, Bool.not_false, true_and, and_true, List.map_cons, List.map_nil, List.nil_append, List.cons_append, List.append_nil, Option.map_some, Option.bind_some, List.getElem?_cons_zero, List.getElem?_cons_succ, Bool.false_eq_true, not_true_eq_false, not_false_eq_true, List.contains_cons, List.contains_nil, Nat.reduceBEq, Bool.true_or, Bool.false_or, Bool.or_true, List.set_cons_zero, List.set_cons_succ, List.length_cons, List.length_nil, isLd, Bool.true_and, Bool.false_and, Bool.and_true, Bool.and_false, x0, x2, x3, x4, f0]
  by_cases hi : (i : Int) < n
  · simp (maxSteps := 300000) (disch := omega) only [gs, gs2, gs3, ↓reduceIte, Nat.reduceEqDiff, Nat.mul_one, Nat.add_zero, Nat.zero_add, Nat.zero_mul, Int.toNat_natCast, Int.reduceToNat, Nat.reduceMul, Nat.reduceAdd, decide_true, decide_false, Bool.not_true, Bool.not_false, true_and, and_true, List.map_cons, List.map_nil, List.nil_append, List.cons_append, List.append_nil, Option.map_some, Option.bind_some, List.getElem?_cons_zero, List.getElem?_cons_succ, Bool.false_eq_true, not_true_eq_false, not_false_eq_true, List.contains_cons, List.contains_nil, Nat.reduceBEq, Bool.true_or, Bool.false_or, Bool.or_true, List.set_cons_zero, List.set_cons_succ, List.length_cons, List.length_nil, isLd, Bool.true_and, Bool.false_and, Bool.and_true, Bool.and_false, x0, x2, x3, x4, hi, f0]
    refine gLoop_intro (fun m' T G' => ∃ (j : Nat) (es : List T3) (Ap : Option Addr) (cp : Nat), T 0 = .pointer (some ⟨b, 0, none⟩) ∧ T 2 = .pointer (some ⟨b2, 0, none⟩) ∧ T 3 = .pointer (some ⟨b3, 0, none⟩) ∧ T 4 = .int .i64 i ∧ T 5 = .int .i64 j ∧ m' + j = n.toNat ∧ j ≤ n.toNat ∧ ArcP n i j es ∧ DN H0 G' b b2 b3 A L c (p + 24 * i + 4 * j) ⟨n, s, t, es⟩ Ap cp)
      n.toNat ⟨0, es, Ap, cp, by simp (maxSteps := 300000) (disch := omega) only [gs, gs2, gs3, ↓reduceIte, Nat.reduceEqDiff, Nat.mul_one, Nat.add_zero, Nat.zero_add, Nat.zero_mul, Int.toNat_natCast, Int.reduceToNat, Nat.reduceMul, Nat.reduceAdd, decide_true, decide_false, Bool.not_true, Bool.not_false, true_and, and_true, List.map_cons, List.map_nil, List.nil_append, List.cons_append, List.append_nil, Option.map_some, Option.bind_some, List.getElem?_cons_zero, List.getElem?_cons_succ, Bool.false_eq_true, not_true_eq_false, not_false_eq_true, List.contains_cons, List.contains_nil, Nat.reduceBEq, Bool.true_or, Bool.false_or, Bool.or_true, List.set_cons_zero, List.set_cons_succ, List.length_cons, List.length_nil, isLd, Bool.true_and, Bool.false_and, Bool.and_true, Bool.and_false, x0], by simp (maxSteps := 300000) (disch := omega) only [gs, gs2, gs3, ↓reduceIte, Nat.reduceEqDiff, Nat.mul_one, Nat.add_zero, Nat.zero_add, Nat.zero_mul, Int.toNat_natCast, Int.reduceToNat, Nat.reduceMul, Nat.reduceAdd, decide_true, decide_false, Bool.not_true, Bool.not_false, true_and, and_true, List.map_cons, List.map_nil, List.nil_append, List.cons_append, List.append_nil, Option.map_some, Option.bind_some, List.getElem?_cons_zero, List.getElem?_cons_succ, Bool.false_eq_true, not_true_eq_false, not_false_eq_true, List.contains_cons, List.contains_nil, Nat.reduceBEq, Bool.true_or, Bool.false_or, Bool.or_true, List.set_cons_zero, List.set_cons_succ, List.length_cons, List.length_nil, isLd, Bool.true_and, Bool.false_and, Bool.and_true, Bool.and_false, x2], by simp (maxSteps := 300000) (disch := omega) only [gs, gs2, gs3, ↓reduceIte, Nat.reduceEqDiff, Nat.mul_one, Nat.add_zero, Nat.zero_add, Nat.zero_mul, Int.toNat_natCast, Int.reduceToNat, Nat.reduceMul, Nat.reduceAdd, decide_true, decide_false, Bool.not_true, Bool.not_false, true_and, and_true, List.map_cons, List.map_nil, List.nil_append, List.cons_append, List.append_nil, Option.map_some, Option.bind_some, List.getElem?_cons_zero, List.getElem?_cons_succ, Bool.false_eq_true, not_true_eq_false, not_false_eq_true, List.contains_cons, List.contains_nil, Nat.reduceBEq, Bool.true_or, Bool.false_or, Bool.or_true, List.set_cons_zero, List.set_cons_succ, List.length_cons, List.length_nil, isLd, Bool.true_and, Bool.false_and, Bool.and_true, Bool.and_false, x3], by simp (maxSteps := 300000) (disch := omega) only [gs, gs2, gs3, ↓reduceIte, Nat.reduceEqDiff, Nat.mul_one, Nat.add_zero, Nat.zero_add, Nat.zero_mul, Int.toNat_natCast, Int.reduceToNat, Nat.reduceMul, Nat.reduceAdd, decide_true, decide_false, Bool.not_true, Bool.not_false, true_and, and_true, List.map_cons, List.map_nil, List.nil_append, List.cons_append, List.append_nil, Option.map_some, Option.bind_some, List.getElem?_cons_zero, List.getElem?_cons_succ, Bool.false_eq_true, not_true_eq_false, not_false_eq_true, List.contains_cons, List.contains_nil, Nat.reduceBEq, Bool.true_or, Bool.false_or, Bool.or_true, List.set_cons_zero, List.set_cons_succ, List.length_cons, List.length_nil, isLd, Bool.true_and, Bool.false_and, Bool.and_true, Bool.and_false, x4], by simp (maxSteps := 300000) (disch := omega) only [gs, gs2, gs3, ↓reduceIte, Nat.reduceEqDiff, Nat.mul_one, Nat.add_zero, Nat.zero_add, Nat.zero_mul, Int.toNat_natCast, Int.reduceToNat, Nat.reduceMul, Nat.reduceAdd, decide_true, decide_false, Bool.not_true, Bool.not_false, true_and, and_true, List.map_cons, List.map_nil, List.nil_append, List.cons_append, List.append_nil, Option.map_some, Option.bind_some, List.getElem?_cons_zero, List.getElem?_cons_succ, Bool.false_eq_true, not_true_eq_false, not_false_eq_true, List.contains_cons, List.contains_nil, Nat.reduceBEq, Bool.true_or, Bool.false_or, Bool.or_true, List.set_cons_zero, List.set_cons_succ, List.length_cons, List.length_nil, isLd, Bool.true_and, Bool.false_and, Bool.and_true, Bool.and_false] <;> rfl, by omega, by omega, hA, hD⟩ ?_
    clear x0 x2 x3 x4 hD hA f0 f1 f2 f3
    rintro m' T G' ⟨j, es, Ap, cp, x0, x2, x3, x4, x5, hm', hjm, hA, hD⟩
    obtain ⟨f0, f1, f2, f3⟩ := hD.rd
    dsimp only at f0 f1 f2 f3
    simp (maxSteps := 300000) (disch := omega) only [gs, gs2, gs3, ↓reduceIte, Nat.reduceEqDiff, Nat.mul_one, Nat.add_zero, Nat.zero_add, Nat.zero_mul, Int.toNat_natCast, Int.reduceToNat, Nat.reduceMul, Nat.reduceAdd, decide_true, decide_false, Bool.not_true, Bool.not_false, true_and, and_true, List.map_cons, List.map_nil, List.nil_append, List.cons_append, List.append_nil, Option.map_some, Option.bind_some, List.getElem?_cons_zero, List.getElem?_cons_succ, Bool.false_eq_true, not_true_eq_false, not_false_eq_true, List.contains_cons, List.contains_nil, Nat.reduceBEq, Bool.true_or, Bool.false_or, Bool.or_true, List.set_cons_zero, List.set_cons_succ, List.length_cons, List.length_nil, isLd, Bool.true_and, Bool.false_and, Bool.and_true, Bool.and_false, x0, x2, x3, x4, x5, f0]
    by_cases hj : (j : Int) < n
    · simp (maxSteps := 300000) (disch := omega) only [gs, gs2, gs3, ↓reduceIte, Nat.reduceEqDiff, Nat.mul_one, Nat.add_zero, Nat.zero_add, Nat.zero_mul, Int.toNat_natCast, Int.reduceToNat, Nat.reduceMul, Nat.reduceAdd, decide_true, decide_false, Bool.not_true, Bool.not_false, true_and, and_true, List.map_cons, List.map_nil, List.nil_append, List.cons_append, List.append_nil, Option.map_some, Option.bind_some, List.getElem?_cons_zero, List.getElem?_cons_succ, Bool.false_eq_true, not_true_eq_false, not_false_eq_true, List.contains_cons, List.contains_nil, Nat.reduceBEq, Bool.true_or, Bool.false_or, Bool.or_true, List.set_cons_zero, List.set_cons_succ, List.length_cons, List.length_nil, isLd, Bool.true_and, Bool.false_and, Bool.and_true, Bool.and_false, x0, x2, x3, x4, x5, hj, f0]
      have keep : ∀ G2, DN H0 G2 b b2 b3 A L c (p + 24 * i + 4 * j + 2) ⟨n, s, t, es⟩ Ap cp → DN H0 G2 b b2 b3 A L c (p + 24 * i + 4 * (j + 1)) ⟨n, s, t, es⟩ Ap cp := fun G2 h => h.le (by omega)
      by_cases hij : (i : Int) = j
      · simp (maxSteps := 300000) (disch := omega) only [gs, gs2, gs3, ↓reduceIte, Nat.reduceEqDiff, Nat.mul_one, Nat.add_zero, Nat.zero_add, Nat.zero_mul, Int.toNat_natCast, Int.reduceToNat, Nat.reduceMul, Nat.reduceAdd, decide_true, decide_false, Bool.not_true, Bool.not_false, true_and, and_true, List.map_cons, List.map_nil, List.nil_append, List.cons_append, List.append_nil, Option.map_some, Option.bind_some, List.getElem?_cons_zero, List.getElem?_cons_succ, Bool.false_eq_true, not_true_eq_false, not_false_eq_true, List.contains_cons, List.contains_nil, Nat.reduceBEq, Bool.true_or, Bool.false_or, Bool.or_true, List.set_cons_zero, List.set_cons_succ, List.length_cons, List.length_nil, isLd, Bool.true_and, Bool.false_and, Bool.and_true, Bool.and_false, eq_true hij, x0, x2, x3, x4, x5]
        exact ⟨m' - 1, by omega, _, Sub.refl _, j + 1, es, Ap, cp, rfl, by omega, by omega, hA.next, keep _ (hD.le (by omega))⟩
      · simp (maxSteps := 300000) (disch := omega) only [gs, gs2, gs3, ↓reduceIte, Nat.reduceEqDiff, Nat.mul_one, Nat.add_zero, Nat.zero_add, Nat.zero_mul, Int.toNat_natCast, Int.reduceToNat, Nat.reduceMul, Nat.reduceAdd, decide_true, decide_false, Bool.not_true, Bool.not_false, true_and, and_true, List.map_cons, List.map_nil, List.nil_append, List.cons_append, List.append_nil, Option.map_some, Option.bind_some, List.getElem?_cons_zero, List.getElem?_cons_succ, Bool.false_eq_true, not_true_eq_false, not_false_eq_true, List.contains_cons, List.contains_nil, Nat.reduceBEq, Bool.true_or, Bool.false_or, Bool.or_true, List.set_cons_zero, List.set_cons_succ, List.length_cons, List.length_nil, isLd, Bool.true_and, Bool.false_and, Bool.and_true, Bool.and_false, eq_false hij, x0, x2, x3, x4, x5]
        refine spec_pick_ok hD.src.all (by omega) (n := 5) (by omega) fun v G2 v0 v1 _ s2 => ?_
        have v1 := v1 (by omega)
        have hD2 := hD.step s2
        obtain ⟨f0, f1, f2, f3⟩ := hD2.rd
        dsimp only at f0 f1 f2 f3
        simp (maxSteps := 300000) (disch := omega) only [gs, gs2, gs3, ↓reduceIte, Nat.reduceEqDiff, Nat.mul_one, Nat.add_zero, Nat.zero_add, Nat.zero_mul, Int.toNat_natCast, Int.reduceToNat, Nat.reduceMul, Nat.reduceAdd, decide_true, decide_false, Bool.not_true, Bool.not_false, true_and, and_true, List.map_cons, List.map_nil, List.nil_append, List.cons_append, List.append_nil, Option.map_some, Option.bind_some, List.getElem?_cons_zero, List.getElem?_cons_succ, Bool.false_eq_true, not_true_eq_false, not_false_eq_true, List.contains_cons, List.contains_nil, Nat.reduceBEq, Bool.true_or, Bool.false_or, Bool.or_true, List.set_cons_zero, List.set_cons_succ, List.length_cons, List.length_nil, isLd, Bool.true_and, Bool.false_and, Bool.and_true, Bool.and_false, x0, x2, x3, x4, x5, f0, f3]
        by_cases hv : v < 2
        · simp (maxSteps := 300000) (disch := omega) only [gs, gs2, gs3, ↓reduceIte, Nat.reduceEqDiff, Nat.mul_one, Nat.add_zero, Nat.zero_add, Nat.zero_mul, Int.toNat_natCast, Int.reduceToNat, Nat.reduceMul, Nat.reduceAdd, decide_true, decide_false, Bool.not_true, Bool.not_false, true_and, and_true, List.map_cons, List.map_nil, List.nil_append, List.cons_append, List.append_nil, Option.map_some, Option.bind_some, List.getElem?_cons_zero, List.getElem?_cons_succ, Bool.false_eq_true, not_true_eq_false, not_false_eq_true, List.contains_cons, List.contains_nil, Nat.reduceBEq, Bool.true_or, Bool.false_or, Bool.or_true, List.set_cons_zero, List.set_cons_succ, List.length_cons, List.length_nil, isLd, Bool.true_and, Bool.false_and, Bool.and_true, Bool.and_false, hv, x0, x2, x3, x4, x5, f0, f3]
          by_cases hl : (es.length : Int) < 24
          · simp (maxSteps := 300000) (disch := omega) only [gs, gs2, gs3, ↓reduceIte, Nat.reduceEqDiff, Nat.mul_one, Nat.add_zero, Nat.zero_add, Nat.zero_mul, Int.toNat_natCast, Int.reduceToNat, Nat.reduceMul, Nat.reduceAdd, decide_true, decide_false, Bool.not_true, Bool.not_false, true_and, and_true, List.map_cons, List.map_nil, List.nil_append, List.cons_append, List.append_nil, Option.map_some, Option.bind_some, List.getElem?_cons_zero, List.getElem?_cons_succ, Bool.false_eq_true, not_true_eq_false, not_false_eq_true, List.contains_cons, List.contains_nil, Nat.reduceBEq, Bool.true_or, Bool.false_or, Bool.or_true, List.set_cons_zero, List.set_cons_succ, List.length_cons, List.length_nil, isLd, Bool.true_and, Bool.false_and, Bool.and_true, Bool.and_false, hl, x0, x2, x3, x4, x5, f0, f1, f2, f3, gBs]
            refine ⟨by intro v hv; simp at hv; rcases hv with rfl | rfl | rfl | rfl | rfl | rfl <;> rfl, fun bx hbx => ?_⟩
            have hDx := hD2.box hbx ⟨[0, 1, 2, 5, 9, 30].map I64, true⟩
            have hbb : bx ≠ b := hD2.src.ne hbx
            have hxl : IntS (del (put G2 bx ⟨[0, 1, 2, 5, 9, 30].map I64, true⟩) b) (some ⟨bx, 0, none⟩) 6 [0, 1, 2, 5, 9, 30] := blk_ints (xs := [0, 1, 2, 5, 9, 30]) (by rw [del_ne _ hbb]; exact put_same _ _ _)
            refine ⟨hDx.rd.2.2.2, ?_⟩
            refine spec_among_ok (xs := [0, 1, 2, 5, 9, 30]) hDx.src.all (by omega) hxl (by simp) (by simp) fun w G3 hw s3 => ?_
            have hw : 0 ≤ w ∧ w ≤ 1000000 := by simp at hw; omega
            have hD3 := hDx.step s3
            obtain ⟨f0, f1, f2, f3⟩ := hD3.rd
            dsimp only at f0 f1 f2 f3
            have hbl : bldV [.int .i64 0, .int .i64 0, .int .i64 0] [(0, 1, .int .i64 (i : Int)), (1, 1, .int .i64 (j : Int)), (2, 1, .int .i64 w)] = some [.int .i64 (i : Int), .int .i64 (j : Int), .int .i64 w] := rfl
            simp (maxSteps := 300000) (disch := omega) only [gs, gs2, gs3, ↓reduceIte, Nat.reduceEqDiff, Nat.mul_one, Nat.add_zero, Nat.zero_add, Nat.zero_mul, Int.toNat_natCast, Int.reduceToNat, Nat.reduceMul, Nat.reduceAdd, decide_true, decide_false, Bool.not_true, Bool.not_false, true_and, and_true, List.map_cons, List.map_nil, List.nil_append, List.cons_append, List.append_nil, Option.map_some, Option.bind_some, List.getElem?_cons_zero, List.getElem?_cons_succ, Bool.false_eq_true, not_true_eq_false, not_false_eq_true, List.contains_cons, List.contains_nil, Nat.reduceBEq, Bool.true_or, Bool.false_or, Bool.or_true, List.set_cons_zero, List.set_cons_succ, List.length_cons, List.length_nil, isLd, Bool.true_and, Bool.false_and, Bool.and_true, Bool.and_false, x0, x2, x3, x4, x5, f0, f1, f2, f3, hbl, gBs]
            refine ⟨by intro v hv; simp at hv; subst hv; rfl, fun by' hby => ?_⟩
            have hDy := hD3.box hby ⟨[.int .i64 (i : Int), .int .i64 (j : Int), .int .i64 w], true⟩
            refine ⟨hDy.rd.2.2.2, ?_⟩
            refine ap_own hDy.own (cells_one [.int .i64 (i : Int), .int .i64 (j : Int), .int .i64 w] true) (by rfl) (by intro v hv; simp at hv; rcases hv with rfl | rfl | rfl <;> rfl) rfl (by omega) (by omega) (by omega) fun G5 A5 c5 hO5 hG5 => ?_
            obtain ⟨t1, t2⟩ := hG5 _ (Sub.wo _ _) (Off.wo _ _)
            have hfl : flat3 es ++ [.int .i64 (i : Int), .int .i64 (j : Int), .int .i64 w] = flat3 (es ++ [((i : Int), (j : Int), w)]) := by simp [flat3, c3]
            obtain ⟨hD6, e5⟩ := hDy.grow (es' := es ++ [((i : Int), (j : Int), w)]) (hO5.cast hfl (by simp)) t1 t2
            simp (maxSteps := 300000) (disch := omega) only [gs, gs2, gs3, ↓reduceIte, Nat.reduceEqDiff, Nat.mul_one, Nat.add_zero, Nat.zero_add, Nat.zero_mul, Int.toNat_natCast, Int.reduceToNat, Nat.reduceMul, Nat.reduceAdd, decide_true, decide_false, Bool.not_true, Bool.not_false, true_and, and_true, List.map_cons, List.map_nil, List.nil_append, List.cons_append, List.append_nil, Option.map_some, Option.bind_some, List.getElem?_cons_zero, List.getElem?_cons_succ, Bool.false_eq_true, not_true_eq_false, not_false_eq_true, List.contains_cons, List.contains_nil, Nat.reduceBEq, Bool.true_or, Bool.false_or, Bool.or_true, List.set_cons_zero, List.set_cons_succ, List.length_cons, List.length_nil, isLd, Bool.true_and, Bool.false_and, Bool.and_true, Bool.and_false, x0, x2, x3, x4, x5]
            refine st_box e5 rfl (by simp [netC]) _ rfl ?_
            simp (maxSteps := 300000) (disch := omega) only [gs, gs2, gs3, ↓reduceIte, Nat.reduceEqDiff, Nat.mul_one, Nat.add_zero, Nat.zero_add, Nat.zero_mul, Int.toNat_natCast, Int.reduceToNat, Nat.reduceMul, Nat.reduceAdd, decide_true, decide_false, Bool.not_true, Bool.not_false, true_and, and_true, List.map_cons, List.map_nil, List.nil_append, List.cons_append, List.append_nil, Option.map_some, Option.bind_some, List.getElem?_cons_zero, List.getElem?_cons_succ, Bool.false_eq_true, not_true_eq_false, not_false_eq_true, List.contains_cons, List.contains_nil, Nat.reduceBEq, Bool.true_or, Bool.false_or, Bool.or_true, List.set_cons_zero, List.set_cons_succ, List.length_cons, List.length_nil, isLd, Bool.true_and, Bool.false_and, Bool.and_true, Bool.and_false, x0, x2, x3, x4, x5]
            exact ⟨m' - 1, by omega, _, Sub.refl _, j + 1, es ++ [((i : Int), (j : Int), w)], A5, c5, rfl, by omega, by omega, hA.snoc (by omega) ⟨by omega, hi⟩ ⟨by omega, hj⟩ hij hw, by
              have := hD6.le (p' := p + 24 * i + 4 * (j + 1)) (by omega)
              simpa [netC] using this⟩
          · simp (maxSteps := 300000) (disch := omega) only [gs, gs2, gs3, ↓reduceIte, Nat.reduceEqDiff, Nat.mul_one, Nat.add_zero, Nat.zero_add, Nat.zero_mul, Int.toNat_natCast, Int.reduceToNat, Nat.reduceMul, Nat.reduceAdd, decide_true, decide_false, Bool.not_true, Bool.not_false, true_and, and_true, List.map_cons, List.map_nil, List.nil_append, List.cons_append, List.append_nil, Option.map_some, Option.bind_some, List.getElem?_cons_zero, List.getElem?_cons_succ, Bool.false_eq_true, not_true_eq_false, not_false_eq_true, List.contains_cons, List.contains_nil, Nat.reduceBEq, Bool.true_or, Bool.false_or, Bool.or_true, List.set_cons_zero, List.set_cons_succ, List.length_cons, List.length_nil, isLd, Bool.true_and, Bool.false_and, Bool.and_true, Bool.and_false, hl, x0, x2, x3, x4, x5, f0, f3]
            exact ⟨m' - 1, by omega, _, Sub.refl _, j + 1, es, Ap, cp, rfl, by omega, by omega, hA.next, keep _ hD2⟩
        · simp (maxSteps := 300000) (disch := omega) only [gs, gs2, gs3, ↓reduceIte, Nat.reduceEqDiff, Nat.mul_one, Nat.add_zero, Nat.zero_add, Nat.zero_mul, Int.toNat_natCast, Int.reduceToNat, Nat.reduceMul, Nat.reduceAdd, decide_true, decide_false, Bool.not_true, Bool.not_false, true_and, and_true, List.map_cons, List.map_nil, List.nil_append, List.cons_append, List.append_nil, Option.map_some, Option.bind_some, List.getElem?_cons_zero, List.getElem?_cons_succ, Bool.false_eq_true, not_true_eq_false, not_false_eq_true, List.contains_cons, List.contains_nil, Nat.reduceBEq, Bool.true_or, Bool.false_or, Bool.or_true, List.set_cons_zero, List.set_cons_succ, List.length_cons, List.length_nil, isLd, Bool.true_and, Bool.false_and, Bool.and_true, Bool.and_false, hv, x0, x2, x3, x4, x5, f0, f3]
          exact ⟨m' - 1, by omega, _, Sub.refl _, j + 1, es, Ap, cp, rfl, by omega, by omega, hA.next, keep _ hD2⟩
    · simp (maxSteps := 300000) (disch := omega) only [gs, gs2, gs3, ↓reduceIte, Nat.reduceEqDiff, Nat.mul_one, Nat.add_zero, Nat.zero_add, Nat.zero_mul, Int.toNat_natCast, Int.reduceToNat, Nat.reduceMul, Nat.reduceAdd, decide_true, decide_false, Bool.not_true, Bool.not_false, true_and, and_true, List.map_cons, List.map_nil, List.nil_append, List.cons_append, List.append_nil, Option.map_some, Option.bind_some, List.getElem?_cons_zero, List.getElem?_cons_succ, Bool.false_eq_true, not_true_eq_false, not_false_eq_true, List.contains_cons, List.contains_nil, Nat.reduceBEq, Bool.true_or, Bool.false_or, Bool.or_true, List.set_cons_zero, List.set_cons_succ, List.length_cons, List.length_nil, isLd, Bool.true_and, Bool.false_and, Bool.and_true, Bool.and_false, x0, x2, x3, x4, x5, hj, f0]
      obtain rfl : j = n.toNat := by omega
      exact ⟨m - 1, by omega, _, Sub.refl _, i + 1, es, Ap, cp, rfl, by omega, by omega, hA.row, hD.le (by omega)⟩
  · simp (maxSteps := 300000) (disch := omega) only [gs, gs2, gs3, ↓reduceIte, Nat.reduceEqDiff, Nat.mul_one, Nat.add_zero, Nat.zero_add, Nat.zero_mul, Int.toNat_natCast, Int.reduceToNat, Nat.reduceMul, Nat.reduceAdd, decide_true, decide_false, Bool.not_true, Bool.not_false, true_and, and_true, List.map_cons, List.map_nil, List.nil_append, List.cons_append, List.append_nil, Option.map_some, Option.bind_some, List.getElem?_cons_zero, List.getElem?_cons_succ, Bool.false_eq_true, not_true_eq_false, not_false_eq_true, List.contains_cons, List.contains_nil, Nat.reduceBEq, Bool.true_or, Bool.false_or, Bool.or_true, List.set_cons_zero, List.set_cons_succ, List.length_cons, List.length_nil, isLd, Bool.true_and, Bool.false_and, Bool.and_true, Bool.and_false, x0, x2, x3, x4, hi, f0]
    obtain rfl : i = n.toNat := by omega
    exact hQ _ _ es Ap cp _ (by simp (maxSteps := 300000) (disch := omega) only [gs, gs2, gs3, ↓reduceIte, Nat.reduceEqDiff, Nat.mul_one, Nat.add_zero, Nat.zero_add, Nat.zero_mul, Int.toNat_natCast, Int.reduceToNat, Nat.reduceMul, Nat.reduceAdd, decide_true, decide_false, Bool.not_true, Bool.not_false, true_and, and_true, List.map_cons, List.map_nil, List.nil_append, List.cons_append, List.append_nil, Option.map_some, Option.bind_some, List.getElem?_cons_zero, List.getElem?_cons_succ, Bool.false_eq_true, not_true_eq_false, not_false_eq_true, List.contains_cons, List.contains_nil, Nat.reduceBEq, Bool.true_or, Bool.false_or, Bool.or_true, List.set_cons_zero, List.set_cons_succ, List.length_cons, List.length_nil, isLd, Bool.true_and, Bool.false_and, Bool.and_true, Bool.and_false, x2]) (by simp (maxSteps := 300000) (disch := omega) only [gs, gs2, gs3, ↓reduceIte, Nat.reduceEqDiff, Nat.mul_one, Nat.add_zero, Nat.zero_add, Nat.zero_mul, Int.toNat_natCast, Int.reduceToNat, Nat.reduceMul, Nat.reduceAdd, decide_true, decide_false, Bool.not_true, Bool.not_false, true_and, and_true, List.map_cons, List.map_nil, List.nil_append, List.cons_append, List.append_nil, Option.map_some, Option.bind_some, List.getElem?_cons_zero, List.getElem?_cons_succ, Bool.false_eq_true, not_true_eq_false, not_false_eq_true, List.contains_cons, List.contains_nil, Nat.reduceBEq, Bool.true_or, Bool.false_or, Bool.or_true, List.set_cons_zero, List.set_cons_succ, List.length_cons, List.length_nil, isLd, Bool.true_and, Bool.false_and, Bool.and_true, Bool.and_false, x3]) (by rw [Int.toNat_of_nonneg (by omega)] at hA; exact hA) hD
theorem spec_l19Draw_ok {H0 G : GH} {b : Nat} {A : Option Addr} {L c p : Nat} (h : Src H0 G b A L c p) (hp : p ≤ 1000) {K : Value → GH → Prop}
    (hk : ∀ G' N Ap cp, NetOk N → Own G' Ap cp (flat3 N.arcs) 3 N.arcs.length → Off H0 Ap → Sub H0 G' → K (netV N Ap cp) G') : GC Try.prog 198 [.pointer (some ⟨b, 0, none⟩)] G K := by
  refine c_spec_l19Draw_i (by simp) ?_
  simp (maxSteps := 300000) (disch := omega) only [gs, gs2, gs3, ↓reduceIte, Nat.reduceEqDiff, Nat.mul_one, Nat.add_zero, Nat.zero_add, Nat.zero_mul, Int.toNat_natCast, Int.reduceToNat, Nat.reduceMul, Nat.reduceAdd, decide_true, decide_false, Bool.not_true, Bool.not_false, true_and, and_true, List.map_cons, List.map_nil, List.nil_append, List.cons_append, List.append_nil, Option.map_some, Option.bind_some, List.getElem?_cons_zero, List.getElem?_cons_succ, Bool.false_eq_true, not_true_eq_false, not_false_eq_true, List.contains_cons, List.contains_nil, Nat.reduceBEq, Bool.true_or, Bool.false_or, Bool.or_true, List.set_cons_zero, List.set_cons_succ, List.length_cons, List.length_nil, isLd, Bool.true_and, Bool.false_and, Bool.and_true, Bool.and_false]
  intro b2 hb2
  simp (maxSteps := 300000) (disch := omega) only [gs, gs2, gs3, ↓reduceIte, Nat.reduceEqDiff, Nat.mul_one, Nat.add_zero, Nat.zero_add, Nat.zero_mul, Int.toNat_natCast, Int.reduceToNat, Nat.reduceMul, Nat.reduceAdd, decide_true, decide_false, Bool.not_true, Bool.not_false, true_and, and_true, List.map_cons, List.map_nil, List.nil_append, List.cons_append, List.append_nil, Option.map_some, Option.bind_some, List.getElem?_cons_zero, List.getElem?_cons_succ, Bool.false_eq_true, not_true_eq_false, not_false_eq_true, List.contains_cons, List.contains_nil, Nat.reduceBEq, Bool.true_or, Bool.false_or, Bool.or_true, List.set_cons_zero, List.set_cons_succ, List.length_cons, List.length_nil, isLd, Bool.true_and, Bool.false_and, Bool.and_true, Bool.and_false]
  have h2 := h.box hb2 ⟨z4, true⟩
  have d2 := h.ne hb2
  have nn2 := h.sub.none hb2
  have h2' := h2.low (Sub.put nn2 _) h.byt
  refine spec_pick_ok h2'.all (by omega) (n := 5) (by omega) fun v G1 v0 v1 _ s1 => ?_
  have v1 := v1 (by omega)
  have hs := s1.sub
  have e2 : G1 b2 = some ⟨z4, true⟩ := hs _ _ (by rw [del_ne _ d2]; exact put_same _ _ _)
  have sH : Sub H0 G1 := (h2'.sub.in_del h.nb).trans hs
  have s1' : Src H0 G1 b A L c (p + 2) := ⟨sH, h.nb, h.byt, s1.ex⟩
  simp (maxSteps := 300000) (disch := omega) only [gs, gs2, gs3, ↓reduceIte, Nat.reduceEqDiff, Nat.mul_one, Nat.add_zero, Nat.zero_add, Nat.zero_mul, Int.toNat_natCast, Int.reduceToNat, Nat.reduceMul, Nat.reduceAdd, decide_true, decide_false, Bool.not_true, Bool.not_false, true_and, and_true, List.map_cons, List.map_nil, List.nil_append, List.cons_append, List.append_nil, Option.map_some, Option.bind_some, List.getElem?_cons_zero, List.getElem?_cons_succ, Bool.false_eq_true, not_true_eq_false, not_false_eq_true, List.contains_cons, List.contains_nil, Nat.reduceBEq, Bool.true_or, Bool.false_or, Bool.or_true, List.set_cons_zero, List.set_cons_succ, List.length_cons, List.length_nil, isLd, Bool.true_and, Bool.false_and, Bool.and_true, Bool.and_false]
  intro b3 hb3
  simp (maxSteps := 300000) (disch := omega) only [gs, gs2, gs3, ↓reduceIte, Nat.reduceEqDiff, Nat.mul_one, Nat.add_zero, Nat.zero_add, Nat.zero_mul, Int.toNat_natCast, Int.reduceToNat, Nat.reduceMul, Nat.reduceAdd, decide_true, decide_false, Bool.not_true, Bool.not_false, true_and, and_true, List.map_cons, List.map_nil, List.nil_append, List.cons_append, List.append_nil, Option.map_some, Option.bind_some, List.getElem?_cons_zero, List.getElem?_cons_succ, Bool.false_eq_true, not_true_eq_false, not_false_eq_true, List.contains_cons, List.contains_nil, Nat.reduceBEq, Bool.true_or, Bool.false_or, Bool.or_true, List.set_cons_zero, List.set_cons_succ, List.length_cons, List.length_nil, isLd, Bool.true_and, Bool.false_and, Bool.and_true, Bool.and_false]
  refine st_fresh (vs := [.int .i64 (2 + v), .int .i64 0, .int .i64 0, .slice none 0 0]) rfl rfl rfl (by intro v hv; simp at hv; rcases hv with rfl | rfl | rfl | rfl <;> rfl) ?_
  have d3 := s1'.ne hb3
  have d23 : b2 ≠ b3 := blk_ne e2 hb3
  obtain ⟨n, hn⟩ : ∃ n, n = 2 + v := ⟨_, rfl⟩
  rw [← hn]
  have hD : DN H0 (put G1 b3 ⟨netC ⟨n, 0, 0, []⟩ none 0, true⟩) b b2 b3 A L c (p + 2) ⟨n, 0, 0, []⟩ none 0 := by
    obtain ⟨q, st, g1, g2⟩ := s1'.ex
    exact ⟨⟨sH.trans (Sub.put hb3 _), h.nb, h.byt, q, st, g1, by rw [put_ne _ _ d3.symm]; exact g2⟩, by rw [put_ne _ _ d23]; exact e2, put_same _ _ _, Own.nil _ _, nn2, sH.none hb3, Off.nil _, d2, d3, d23, fun a ha => by cases ha⟩
  have e4 : put G1 b3 ⟨[.int .i64 n, .int .i64 0, .int .i64 0, .slice none 0 0], true⟩ = put G1 b3 ⟨netC ⟨n, 0, 0, []⟩ none 0, true⟩ := rfl
  rw [e4]
  clear e4
  revert hD
  generalize put G1 b3 ⟨netC ⟨n, 0, 0, []⟩ none 0, true⟩ = G4
  intro hD
  obtain ⟨f0, f1, f2, f3⟩ := hD.rd
  dsimp only at f0 f1 f2 f3
  have fin : ∀ (s t : Int) (T : Nat → Value) (G5 : GH) (es : List T3) (Ap : Option Addr) (cp p' : Nat), ((0 ≤ s ∧ s ≤ n - 1) ∧ (0 ≤ t ∧ t ≤ n - 1) ∧ s ≠ t) → ArcP n n 0 es → DN H0 G5 b b2 b3 A L c p' ⟨n, s, t, es⟩ Ap cp → T 2 = .pointer (some ⟨b2, 0, none⟩) → T 3 = .pointer (some ⟨b3, 0, none⟩) →
      gW Try.prog (.seq (.reg c_spec_l19Draw_16) .ret) (RetK [RV.cn 2 4] K) T G5 := fun s t T G5 es Ap cp p' hst hA hD x2 x3 => by
    obtain ⟨f0, f1, f2, f3⟩ := hD.rd
    dsimp only at f0 f1 f2 f3
    simp (maxSteps := 300000) (disch := omega) only [gs, gs2, gs3, ↓reduceIte, Nat.reduceEqDiff, Nat.mul_one, Nat.add_zero, Nat.zero_add, Nat.zero_mul, Int.toNat_natCast, Int.reduceToNat, Nat.reduceMul, Nat.reduceAdd, decide_true, decide_false, Bool.not_true, Bool.not_false, true_and, and_true, List.map_cons, List.map_nil, List.nil_append, List.cons_append, List.append_nil, Option.map_some, Option.bind_some, List.getElem?_cons_zero, List.getElem?_cons_succ, Bool.false_eq_true, not_true_eq_false, not_false_eq_true, List.contains_cons, List.contains_nil, Nat.reduceBEq, Bool.true_or, Bool.false_or, Bool.or_true, List.set_cons_zero, List.set_cons_succ, List.length_cons, List.length_nil, isLd, Bool.true_and, Bool.false_and, Bool.and_true, Bool.and_false, x2, x3, f0, f1, f2, f3]
    refine st_many (vs := netC ⟨n, s, t, es⟩ Ap cp) rfl hD.r2 rfl (by simp [z4, netC]) (by intro v hv; simp [netC] at hv; rcases hv with rfl | rfl | rfl | rfl <;> rfl) ?_
    rw [show over z4 0 (netC ⟨n, s, t, es⟩ Ap cp) = netC ⟨n, s, t, es⟩ Ap cp from rfl]
    have hlast : K (netV ⟨n, s, t, es⟩ Ap cp) (put G5 b2 ⟨netC ⟨n, s, t, es⟩ Ap cp, true⟩) := by
      refine hk _ _ _ _ ⟨by dsimp only; omega, by dsimp only; omega, by dsimp only; omega, hst.2.2, ⟨hA.ok, hA.lt⟩, hA.len⟩ ?_ hD.off (hD.src.sub.skip hD.n2)
      rcases hD.own with ho | ⟨x, r, rfl, hx, hr⟩
      · exact .inl ho
      · exact .inr ⟨x, r, rfl, by rw [put_ne _ _ (hD.da _ rfl).2.1]; exact hx, hr⟩
    have q0 : rd (put G5 b2 ⟨netC ⟨n, s, t, es⟩ Ap cp, true⟩) (some ⟨b2, 0, none⟩) = some (.int .i64 n) := rd_box _ _ _ 0 _ rfl
    have q1 : rd (put G5 b2 ⟨netC ⟨n, s, t, es⟩ Ap cp, true⟩) (some ⟨b2, 1, none⟩) = some (.int .i64 s) := rd_box _ _ _ 1 _ rfl
    have q2 : rd (put G5 b2 ⟨netC ⟨n, s, t, es⟩ Ap cp, true⟩) (some ⟨b2, 2, none⟩) = some (.int .i64 t) := rd_box _ _ _ 2 _ rfl
    have q3 : rd (put G5 b2 ⟨netC ⟨n, s, t, es⟩ Ap cp, true⟩) (some ⟨b2, 3, none⟩) = some (.slice Ap es.length cp) := rd_box _ _ _ 3 _ rfl
    simp (maxSteps := 300000) (disch := omega) only [gs, gs2, gs3, ↓reduceIte, Nat.reduceEqDiff, Nat.mul_one, Nat.add_zero, Nat.zero_add, Nat.zero_mul, Int.toNat_natCast, Int.reduceToNat, Nat.reduceMul, Nat.reduceAdd, decide_true, decide_false, Bool.not_true, Bool.not_false, true_and, and_true, List.map_cons, List.map_nil, List.nil_append, List.cons_append, List.append_nil, Option.map_some, Option.bind_some, List.getElem?_cons_zero, List.getElem?_cons_succ, Bool.false_eq_true, not_true_eq_false, not_false_eq_true, List.contains_cons, List.contains_nil, Nat.reduceBEq, Bool.true_or, Bool.false_or, Bool.or_true, List.set_cons_zero, List.set_cons_succ, List.length_cons, List.length_nil, isLd, Bool.true_and, Bool.false_and, Bool.and_true, Bool.and_false, x2, x3, q0, q1, q2, q3]
    exact hlast
  simp (maxSteps := 300000) (disch := omega) only [gs, gs2, gs3, ↓reduceIte, Nat.reduceEqDiff, Nat.mul_one, Nat.add_zero, Nat.zero_add, Nat.zero_mul, Int.toNat_natCast, Int.reduceToNat, Nat.reduceMul, Nat.reduceAdd, decide_true, decide_false, Bool.not_true, Bool.not_false, true_and, and_true, List.map_cons, List.map_nil, List.nil_append, List.cons_append, List.append_nil, Option.map_some, Option.bind_some, List.getElem?_cons_zero, List.getElem?_cons_succ, Bool.false_eq_true, not_true_eq_false, not_false_eq_true, List.contains_cons, List.contains_nil, Nat.reduceBEq, Bool.true_or, Bool.false_or, Bool.or_true, List.set_cons_zero, List.set_cons_succ, List.length_cons, List.length_nil, isLd, Bool.true_and, Bool.false_and, Bool.and_true, Bool.and_false, f0]
  refine st_box hD.r3 rfl (by simp [netC]) (netC ⟨n, 0, n - 1, []⟩ none 0) rfl ?_
  have hD := hD.set 0 (n - 1)
  revert hD
  generalize put G4 b3 ⟨netC ⟨n, 0, n - 1, []⟩ none 0, true⟩ = G6
  intro hD
  simp (maxSteps := 300000) (disch := omega) only [gs, gs2, gs3, ↓reduceIte, Nat.reduceEqDiff, Nat.mul_one, Nat.add_zero, Nat.zero_add, Nat.zero_mul, Int.toNat_natCast, Int.reduceToNat, Nat.reduceMul, Nat.reduceAdd, decide_true, decide_false, Bool.not_true, Bool.not_false, true_and, and_true, List.map_cons, List.map_nil, List.nil_append, List.cons_append, List.append_nil, Option.map_some, Option.bind_some, List.getElem?_cons_zero, List.getElem?_cons_succ, Bool.false_eq_true, not_true_eq_false, not_false_eq_true, List.contains_cons, List.contains_nil, Nat.reduceBEq, Bool.true_or, Bool.false_or, Bool.or_true, List.set_cons_zero, List.set_cons_succ, List.length_cons, List.length_nil, isLd, Bool.true_and, Bool.false_and, Bool.and_true, Bool.and_false]
  refine spec_one_ok hD.src.all (by omega) (n := 4) (by omega) fun w G7 s7 => ?_
  have hD := hD.step s7
  obtain ⟨f0, f1, f2, f3⟩ := hD.rd
  dsimp only at f0 f1 f2 f3
  cases w
  · skip
    simp (maxSteps := 300000) (disch := omega) only [gs, gs2, gs3, ↓reduceIte, Nat.reduceEqDiff, Nat.mul_one, Nat.add_zero, Nat.zero_add, Nat.zero_mul, Int.toNat_natCast, Int.reduceToNat, Nat.reduceMul, Nat.reduceAdd, decide_true, decide_false, Bool.not_true, Bool.not_false, true_and, and_true, List.map_cons, List.map_nil, List.nil_append, List.cons_append, List.append_nil, Option.map_some, Option.bind_some, List.getElem?_cons_zero, List.getElem?_cons_succ, Bool.false_eq_true, not_true_eq_false, not_false_eq_true, List.contains_cons, List.contains_nil, Nat.reduceBEq, Bool.true_or, Bool.false_or, Bool.or_true, List.set_cons_zero, List.set_cons_succ, List.length_cons, List.length_nil, isLd, Bool.true_and, Bool.false_and, Bool.and_true, Bool.and_false]
    refine draw_l1 (p := p + 4) (by omega) (by omega) hD (by simp (maxSteps := 300000) (disch := omega) only [gs, gs2, gs3, ↓reduceIte, Nat.reduceEqDiff, Nat.mul_one, Nat.add_zero, Nat.zero_add, Nat.zero_mul, Int.toNat_natCast, Int.reduceToNat, Nat.reduceMul, Nat.reduceAdd, decide_true, decide_false, Bool.not_true, Bool.not_false, true_and, and_true, List.map_cons, List.map_nil, List.nil_append, List.cons_append, List.append_nil, Option.map_some, Option.bind_some, List.getElem?_cons_zero, List.getElem?_cons_succ, Bool.false_eq_true, not_true_eq_false, not_false_eq_true, List.contains_cons, List.contains_nil, Nat.reduceBEq, Bool.true_or, Bool.false_or, Bool.or_true, List.set_cons_zero, List.set_cons_succ, List.length_cons, List.length_nil, isLd, Bool.true_and, Bool.false_and, Bool.and_true, Bool.and_false]) (by simp (maxSteps := 300000) (disch := omega) only [gs, gs2, gs3, ↓reduceIte, Nat.reduceEqDiff, Nat.mul_one, Nat.add_zero, Nat.zero_add, Nat.zero_mul, Int.toNat_natCast, Int.reduceToNat, Nat.reduceMul, Nat.reduceAdd, decide_true, decide_false, Bool.not_true, Bool.not_false, true_and, and_true, List.map_cons, List.map_nil, List.nil_append, List.cons_append, List.append_nil, Option.map_some, Option.bind_some, List.getElem?_cons_zero, List.getElem?_cons_succ, Bool.false_eq_true, not_true_eq_false, not_false_eq_true, List.contains_cons, List.contains_nil, Nat.reduceBEq, Bool.true_or, Bool.false_or, Bool.or_true, List.set_cons_zero, List.set_cons_succ, List.length_cons, List.length_nil, isLd, Bool.true_and, Bool.false_and, Bool.and_true, Bool.and_false]) (by simp (maxSteps := 300000) (disch := omega) only [gs, gs2, gs3, ↓reduceIte, Nat.reduceEqDiff, Nat.mul_one, Nat.add_zero, Nat.zero_add, Nat.zero_mul, Int.toNat_natCast, Int.reduceToNat, Nat.reduceMul, Nat.reduceAdd, decide_true, decide_false, Bool.not_true, Bool.not_false, true_and, and_true, List.map_cons, List.map_nil, List.nil_append, List.cons_append, List.append_nil, Option.map_some, Option.bind_some, List.getElem?_cons_zero, List.getElem?_cons_succ, Bool.false_eq_true, not_true_eq_false, not_false_eq_true, List.contains_cons, List.contains_nil, Nat.reduceBEq, Bool.true_or, Bool.false_or, Bool.or_true, List.set_cons_zero, List.set_cons_succ, List.length_cons, List.length_nil, isLd, Bool.true_and, Bool.false_and, Bool.and_true, Bool.and_false]) (by simp (maxSteps := 300000) (disch := omega) only [gs, gs2, gs3, ↓reduceIte, Nat.reduceEqDiff, Nat.mul_one, Nat.add_zero, Nat.zero_add, Nat.zero_mul, Int.toNat_natCast, Int.reduceToNat, Nat.reduceMul, Nat.reduceAdd, decide_true, decide_false, Bool.not_true, Bool.not_false, true_and, and_true, List.map_cons, List.map_nil, List.nil_append, List.cons_append, List.append_nil, Option.map_some, Option.bind_some, List.getElem?_cons_zero, List.getElem?_cons_succ, Bool.false_eq_true, not_true_eq_false, not_false_eq_true, List.contains_cons, List.contains_nil, Nat.reduceBEq, Bool.true_or, Bool.false_or, Bool.or_true, List.set_cons_zero, List.set_cons_succ, List.length_cons, List.length_nil, isLd, Bool.true_and, Bool.false_and, Bool.and_true, Bool.and_false]) fun T G5 es Ap cp p' x2 x3 hA hD => ?_
    exact fin _ _ _ _ _ _ _ _ (by omega) hA hD x2 x3
  · simp (maxSteps := 300000) (disch := omega) only [gs, gs2, gs3, ↓reduceIte, Nat.reduceEqDiff, Nat.mul_one, Nat.add_zero, Nat.zero_add, Nat.zero_mul, Int.toNat_natCast, Int.reduceToNat, Nat.reduceMul, Nat.reduceAdd, decide_true, decide_false, Bool.not_true, Bool.not_false, true_and, and_true, List.map_cons, List.map_nil, List.nil_append, List.cons_append, List.append_nil, Option.map_some, Option.bind_some, List.getElem?_cons_zero, List.getElem?_cons_succ, Bool.false_eq_true, not_true_eq_false, not_false_eq_true, List.contains_cons, List.contains_nil, Nat.reduceBEq, Bool.true_or, Bool.false_or, Bool.or_true, List.set_cons_zero, List.set_cons_succ, List.length_cons, List.length_nil, isLd, Bool.true_and, Bool.false_and, Bool.and_true, Bool.and_false, f0]
    refine st_box hD.r3 rfl (by simp [netC]) (netC ⟨n, n - 1, n - 1, []⟩ none 0) rfl ?_
    have hD := hD.set (n - 1) (n - 1)
    revert hD
    generalize put G7 b3 ⟨netC ⟨n, n - 1, n - 1, []⟩ none 0, true⟩ = G8
    intro hD
    simp (maxSteps := 300000) (disch := omega) only [gs, gs2, gs3, ↓reduceIte, Nat.reduceEqDiff, Nat.mul_one, Nat.add_zero, Nat.zero_add, Nat.zero_mul, Int.toNat_natCast, Int.reduceToNat, Nat.reduceMul, Nat.reduceAdd, decide_true, decide_false, Bool.not_true, Bool.not_false, true_and, and_true, List.map_cons, List.map_nil, List.nil_append, List.cons_append, List.append_nil, Option.map_some, Option.bind_some, List.getElem?_cons_zero, List.getElem?_cons_succ, Bool.false_eq_true, not_true_eq_false, not_false_eq_true, List.contains_cons, List.contains_nil, Nat.reduceBEq, Bool.true_or, Bool.false_or, Bool.or_true, List.set_cons_zero, List.set_cons_succ, List.length_cons, List.length_nil, isLd, Bool.true_and, Bool.false_and, Bool.and_true, Bool.and_false]
    refine st_box hD.r3 rfl (by simp [netC]) (netC ⟨n, n - 1, 0, []⟩ none 0) rfl ?_
    have hD := hD.set (n - 1) 0
    simp (maxSteps := 300000) (disch := omega) only [gs, gs2, gs3, ↓reduceIte, Nat.reduceEqDiff, Nat.mul_one, Nat.add_zero, Nat.zero_add, Nat.zero_mul, Int.toNat_natCast, Int.reduceToNat, Nat.reduceMul, Nat.reduceAdd, decide_true, decide_false, Bool.not_true, Bool.not_false, true_and, and_true, List.map_cons, List.map_nil, List.nil_append, List.cons_append, List.append_nil, Option.map_some, Option.bind_some, List.getElem?_cons_zero, List.getElem?_cons_succ, Bool.false_eq_true, not_true_eq_false, not_false_eq_true, List.contains_cons, List.contains_nil, Nat.reduceBEq, Bool.true_or, Bool.false_or, Bool.or_true, List.set_cons_zero, List.set_cons_succ, List.length_cons, List.length_nil, isLd, Bool.true_and, Bool.false_and, Bool.and_true, Bool.and_false]
    refine draw_l1 (p := p + 4) (by omega) (by omega) hD (by simp (maxSteps := 300000) (disch := omega) only [gs, gs2, gs3, ↓reduceIte, Nat.reduceEqDiff, Nat.mul_one, Nat.add_zero, Nat.zero_add, Nat.zero_mul, Int.toNat_natCast, Int.reduceToNat, Nat.reduceMul, Nat.reduceAdd, decide_true, decide_false, Bool.not_true, Bool.not_false, true_and, and_true, List.map_cons, List.map_nil, List.nil_append, List.cons_append, List.append_nil, Option.map_some, Option.bind_some, List.getElem?_cons_zero, List.getElem?_cons_succ, Bool.false_eq_true, not_true_eq_false, not_false_eq_true, List.contains_cons, List.contains_nil, Nat.reduceBEq, Bool.true_or, Bool.false_or, Bool.or_true, List.set_cons_zero, List.set_cons_succ, List.length_cons, List.length_nil, isLd, Bool.true_and, Bool.false_and, Bool.and_true, Bool.and_false]) (by simp (maxSteps := 300000) (disch := omega) only [gs, gs2, gs3, ↓reduceIte, Nat.reduceEqDiff, Nat.mul_one, Nat.add_zero, Nat.zero_add, Nat.zero_mul, Int.toNat_natCast, Int.reduceToNat, Nat.reduceMul, Nat.reduceAdd, decide_true, decide_false, Bool.not_true, Bool.not_false, true_and, and_true, List.map_cons, List.map_nil, List.nil_append, List.cons_append, List.append_nil, Option.map_some, Option.bind_some, List.getElem?_cons_zero, List.getElem?_cons_succ, Bool.false_eq_true, not_true_eq_false, not_false_eq_true, List.contains_cons, List.contains_nil, Nat.reduceBEq, Bool.true_or, Bool.false_or, Bool.or_true, List.set_cons_zero, List.set_cons_succ, List.length_cons, List.length_nil, isLd, Bool.true_and, Bool.false_and, Bool.and_true, Bool.and_false]) (by simp (maxSteps := 300000) (disch := omega) only [gs, gs2, gs3, ↓reduceIte, Nat.reduceEqDiff, Nat.mul_one, Nat.add_zero, Nat.zero_add, Nat.zero_mul, Int.toNat_natCast, Int.reduceToNat, Nat.reduceMul, Nat.reduceAdd, decide_true, decide_false, Bool.not_true, Bool.not_false, true_and, and_true, List.map_cons, List.map_nil, List.nil_append, List.cons_append, List.append_nil, Option.map_some, Option.bind_some, List.getElem?_cons_zero, List.getElem?_cons_succ, Bool.false_eq_true, not_true_eq_false, not_false_eq_true, List.contains_cons, List.contains_nil, Nat.reduceBEq, Bool.true_or, Bool.false_or, Bool.or_true, List.set_cons_zero, List.set_cons_succ, List.length_cons, List.length_nil, isLd, Bool.true_and, Bool.false_and, Bool.and_true, Bool.and_false]) (by simp (maxSteps := 300000) (disch := omega) only [gs, gs2, gs3, ↓reduceIte, Nat.reduceEqDiff, Nat.mul_one, Nat.add_zero, Nat.zero_add, Nat.zero_mul, Int.toNat_natCast, Int.reduceToNat, Nat.reduceMul, Nat.reduceAdd, decide_true, decide_false, Bool.not_true, Bool.not_false, true_and, and_true, List.map_cons, List.map_nil, List.nil_append, List.cons_append, List.append_nil, Option.map_some, Option.bind_some, List.getElem?_cons_zero, List.getElem?_cons_succ, Bool.false_eq_true, not_true_eq_false, not_false_eq_true, List.contains_cons, List.contains_nil, Nat.reduceBEq, Bool.true_or, Bool.false_or, Bool.or_true, List.set_cons_zero, List.set_cons_succ, List.length_cons, List.length_nil, isLd, Bool.true_and, Bool.false_and, Bool.and_true, Bool.and_false]) fun T G5 es Ap cp p' x2 x3 hA hD => ?_
    exact fin _ _ _ _ _ _ _ _ (by omega) hA hD x2 x3
theorem spec_R8Network_ok {G : GH} {A : Option Addr} {L c : Nat} (h : BytS G A L c) {K : Value → GH → Prop}
    (hk : ∀ G' N Ap cp, NetOk N → Own G' Ap cp (flat3 N.arcs) 3 N.arcs.length → Off G Ap → Sub G G' → K (netV N Ap cp) G') : GC Try.prog 97 [.slice A L c] G K := by
  refine GC_drop (c_spec_R8Network_i (by simp) ?_)
  simp (maxSteps := 300000) (disch := omega) only [gs, gs2, gs3, ↓reduceIte, Nat.reduceEqDiff, Nat.mul_one, Nat.add_zero, Nat.zero_add, Nat.zero_mul, Int.toNat_natCast, Int.reduceToNat, Nat.reduceMul, Nat.reduceAdd, decide_true, decide_false, Bool.not_true, Bool.not_false, true_and, and_true, List.map_cons, List.map_nil, List.nil_append, List.cons_append, List.append_nil, Option.map_some, Option.bind_some, List.getElem?_cons_zero, List.getElem?_cons_succ, Bool.false_eq_true, not_true_eq_false, not_false_eq_true, List.contains_cons, List.contains_nil, Nat.reduceBEq, Bool.true_or, Bool.false_or, Bool.or_true, List.set_cons_zero, List.set_cons_succ, List.length_cons, List.length_nil, isLd, Bool.true_and, Bool.false_and, Bool.and_true, Bool.and_false]
  intro b2 hb2
  simp (maxSteps := 300000) (disch := omega) only [gs, gs2, gs3, ↓reduceIte, Nat.reduceEqDiff, Nat.mul_one, Nat.add_zero, Nat.zero_add, Nat.zero_mul, Int.toNat_natCast, Int.reduceToNat, Nat.reduceMul, Nat.reduceAdd, decide_true, decide_false, Bool.not_true, Bool.not_false, true_and, and_true, List.map_cons, List.map_nil, List.nil_append, List.cons_append, List.append_nil, Option.map_some, Option.bind_some, List.getElem?_cons_zero, List.getElem?_cons_succ, Bool.false_eq_true, not_true_eq_false, not_false_eq_true, List.contains_cons, List.contains_nil, Nat.reduceBEq, Bool.true_or, Bool.false_or, Bool.or_true, List.set_cons_zero, List.set_cons_succ, List.length_cons, List.length_nil, isLd, Bool.true_and, Bool.false_and, Bool.and_true, Bool.and_false]
  refine c_spec_l00From_i (by simp) ?_
  have hbl : bldV [.slice none 0 0, .int .i64 0, .int .u64 0] [(0, 1, .slice A L c)] = some [.slice A L c, .int .i64 0, .int .u64 0] := rfl
  simp (maxSteps := 300000) (disch := omega) only [gs, gs2, gs3, ↓reduceIte, Nat.reduceEqDiff, Nat.mul_one, Nat.add_zero, Nat.zero_add, Nat.zero_mul, Int.toNat_natCast, Int.reduceToNat, Nat.reduceMul, Nat.reduceAdd, decide_true, decide_false, Bool.not_true, Bool.not_false, true_and, and_true, List.map_cons, List.map_nil, List.nil_append, List.cons_append, List.append_nil, Option.map_some, Option.bind_some, List.getElem?_cons_zero, List.getElem?_cons_succ, Bool.false_eq_true, not_true_eq_false, not_false_eq_true, List.contains_cons, List.contains_nil, Nat.reduceBEq, Bool.true_or, Bool.false_or, Bool.or_true, List.set_cons_zero, List.set_cons_succ, List.length_cons, List.length_nil, isLd, Bool.true_and, Bool.false_and, Bool.and_true, Bool.and_false, hbl]
  intro b5 hb5
  simp (maxSteps := 300000) (disch := omega) only [gs, gs2, gs3, ↓reduceIte, Nat.reduceEqDiff, Nat.mul_one, Nat.add_zero, Nat.zero_add, Nat.zero_mul, Int.toNat_natCast, Int.reduceToNat, Nat.reduceMul, Nat.reduceAdd, decide_true, decide_false, Bool.not_true, Bool.not_false, true_and, and_true, List.map_cons, List.map_nil, List.nil_append, List.cons_append, List.append_nil, Option.map_some, Option.bind_some, List.getElem?_cons_zero, List.getElem?_cons_succ, Bool.false_eq_true, not_true_eq_false, not_false_eq_true, List.contains_cons, List.contains_nil, Nat.reduceBEq, Bool.true_or, Bool.false_or, Bool.or_true, List.set_cons_zero, List.set_cons_succ, List.length_cons, List.length_nil, isLd, Bool.true_and, Bool.false_and, Bool.and_true, Bool.and_false]
  have s2 := Sub.put hb2 ⟨z4, true⟩
  have n25 : b2 ≠ b5 := (put_none.1 hb5).1.symm
  have hS : Src (put G b2 ⟨z4, true⟩) (put (put G b2 ⟨z4, true⟩) b5 ⟨[.slice A L c, .int .i64 0, .int .u64 0], true⟩) b5 A L c 0 := ⟨Sub.put hb5 _, hb5, h.sub s2, 0, 0, Nat.le_refl _, put_same _ _ _⟩
  refine spec_l19Draw_ok hS (by omega) fun G' N Ap cp hn hO hOff hs => ?_
  have e2 : G' b2 = some ⟨z4, true⟩ := hs _ _ (put_same _ _ _)
  have hne : ∀ a, Ap = some a → a.block ≠ b2 := fun a ha e => by have := hOff a ha; rw [e, put_same] at this; cases this
  unfold netV
  simp (maxSteps := 300000) (disch := omega) only [gs, gs2, gs3, ↓reduceIte, Nat.reduceEqDiff, Nat.mul_one, Nat.add_zero, Nat.zero_add, Nat.zero_mul, Int.toNat_natCast, Int.reduceToNat, Nat.reduceMul, Nat.reduceAdd, decide_true, decide_false, Bool.not_true, Bool.not_false, true_and, and_true, List.map_cons, List.map_nil, List.nil_append, List.cons_append, List.append_nil, Option.map_some, Option.bind_some, List.getElem?_cons_zero, List.getElem?_cons_succ, Bool.false_eq_true, not_true_eq_false, not_false_eq_true, List.contains_cons, List.contains_nil, Nat.reduceBEq, Bool.true_or, Bool.false_or, Bool.or_true, List.set_cons_zero, List.set_cons_succ, List.length_cons, List.length_nil, isLd, Bool.true_and, Bool.false_and, Bool.and_true, Bool.and_false]
  refine st_many (vs := netC N Ap cp) rfl e2 rfl (by simp [z4, netC]) (by intro v hv; simp [netC] at hv; rcases hv with rfl | rfl | rfl | rfl <;> rfl) ?_
  rw [show over z4 0 (netC N Ap cp) = netC N Ap cp from rfl]
  have hlast : K (netV N Ap cp) (put G' b2 ⟨netC N Ap cp, true⟩) := by
    refine hk _ _ _ _ hn ?_ (hOff.mono s2) ((s2.trans hs).skip hb2)
    rcases hO with ho | ⟨x, r, rfl, hx, hr⟩
    · exact .inl ho
    · exact .inr ⟨x, r, rfl, by rw [put_ne _ _ (hne _ rfl)]; exact hx, hr⟩
  have q0 : rd (put G' b2 ⟨netC N Ap cp, true⟩) (some ⟨b2, 0, none⟩) = some (.int .i64 N.n) := rd_box _ _ _ 0 _ rfl
  have q1 : rd (put G' b2 ⟨netC N Ap cp, true⟩) (some ⟨b2, 1, none⟩) = some (.int .i64 N.s) := rd_box _ _ _ 1 _ rfl
  have q2 : rd (put G' b2 ⟨netC N Ap cp, true⟩) (some ⟨b2, 2, none⟩) = some (.int .i64 N.t) := rd_box _ _ _ 2 _ rfl
  have q3 : rd (put G' b2 ⟨netC N Ap cp, true⟩) (some ⟨b2, 3, none⟩) = some (.slice Ap N.arcs.length cp) := rd_box _ _ _ 3 _ rfl
  simp (maxSteps := 300000) (disch := omega) only [gs, gs2, gs3, ↓reduceIte, Nat.reduceEqDiff, Nat.mul_one, Nat.add_zero, Nat.zero_add, Nat.zero_mul, Int.toNat_natCast, Int.reduceToNat, Nat.reduceMul, Nat.reduceAdd, decide_true, decide_false, Bool.not_true, Bool.not_false, true_and, and_true, List.map_cons, List.map_nil, List.nil_append, List.cons_append, List.append_nil, Option.map_some, Option.bind_some, List.getElem?_cons_zero, List.getElem?_cons_succ, Bool.false_eq_true, not_true_eq_false, not_false_eq_true, List.contains_cons, List.contains_nil, Nat.reduceBEq, Bool.true_or, Bool.false_or, Bool.or_true, List.set_cons_zero, List.set_cons_succ, List.length_cons, List.length_nil, isLd, Bool.true_and, Bool.false_and, Bool.and_true, Bool.and_false, q0, q1, q2, q3]
  exact ⟨_, Sub.refl _, hlast⟩
theorem fcells_cong {n : Nat} {f g : Int → Int} (h : ∀ v : Int, 0 ≤ v → v < n → f v = g v) : fcells n f = fcells n g := range_cong fun i hi => by rw [h i (by omega) (by omega)]
/-- bytes that came in. -/
def BytesV (G : GH) (v : Value) (L : Nat) : Prop := ∃ A c, v = .slice A L c ∧ BytS G A L c ∧ L ≤ 2 ^ 63 - 1
theorem open_bytes' {H : Type} {enc : TypeId × Value → H} {P : Program} {W : World} {t e : TypeId} (ht : P.underlying t = some (.slice e)) (he : P.underlying e = some (.int .u8)) (hs : P.cellsOf e = 1) {v : Value} {d : DataW H} {ps : List MemPlace} {r : Reach} {base : Nat}
    (hv : Value.okWide P W r base t v) (h : DataW.Trod enc P W 0 (fun _ => true) true t v d ps) : ∃ L, BytesV (G0 W) v L := by
  obtain ⟨A, n, c, rfl⟩ := Go.WideShapes.okWide_slice ht hv
  obtain ⟨fuel, hf⟩ := h
  obtain ⟨hc, hc2, hx⟩ := trod_sl ht hf
  rw [hs] at hx
  refine ⟨n, A, c, rfl, ⟨hc, fun i hi => ?_⟩, by omega⟩
  obtain ⟨cs, f', x', h1, h2, h3⟩ := hx i hi
  obtain ⟨z, rfl, _, hwf⟩ := DataW.trod_int he h3
  simp only [Lit.wf, Bool.and_eq_true, decide_eq_true_eq, IntKind.min, IntKind.max, IntKind.signed, IntKind.bits] at hwf
  have hb : 0 ≤ z ∧ z ≤ 255 := by simpa using hwf
  exact ⟨z, hb.1, hb.2, by simpa using h2 0 _ rfl⟩

end Go.Proofs.Ytmlkgpoakkgjbaa.Gh
