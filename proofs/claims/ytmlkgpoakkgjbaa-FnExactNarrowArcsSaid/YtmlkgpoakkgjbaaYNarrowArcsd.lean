/- What the functions that the law NarrowArcs reaches return, and the law; it stands under no condition. -/
import Derived.Test.YtmlkgpoakkgjbaaYNarrowArcsc
namespace Go.Proofs.Ytmlkgpoakkgjbaa.Gh
open Go Go.RowKit Go.Proofs
set_option linter.unusedVariables false
set_option linter.unusedSimpArgs false
set_option maxHeartbeats 4000000

theorem cmp_Less_ok {G : GH} (a b : Int) {K : Value → GH → Prop} (hk : K (.bool (decide (a < b))) G) : GC Try.prog 270 [.int .i64 a, .int .i64 b] G K := by
  refine c_cmp_Less_int64_i (by simp) ?_
  simp (maxSteps := 300000) (disch := omega) only [gs, gs2, gs3, ↓reduceIte, Nat.reduceEqDiff, Nat.mul_one, Nat.add_zero, Nat.zero_add, Nat.zero_mul, Int.toNat_natCast, Int.reduceToNat, Nat.reduceMul, Nat.reduceAdd, decide_true, decide_false, Bool.not_true, Bool.not_false, true_and, and_true, List.map_cons, List.map_nil, List.nil_append, List.cons_append, List.append_nil, Option.map_some, Option.bind_some, List.getElem?_cons_zero, List.getElem?_cons_succ, Bool.false_eq_true, not_true_eq_false, not_false_eq_true, List.contains_cons, List.contains_nil, Nat.reduceBEq, Bool.true_or, Bool.false_or, Bool.or_true, List.set_cons_zero, List.set_cons_succ, List.length_cons, List.length_nil, isLd, Bool.true_and, Bool.false_and, Bool.and_true, Bool.and_false]
  refine cmp_isNaN_ok _ ?_
  simp (maxSteps := 300000) (disch := omega) only [gs, gs2, gs3, ↓reduceIte, Nat.reduceEqDiff, Nat.mul_one, Nat.add_zero, Nat.zero_add, Nat.zero_mul, Int.toNat_natCast, Int.reduceToNat, Nat.reduceMul, Nat.reduceAdd, decide_true, decide_false, Bool.not_true, Bool.not_false, true_and, and_true, List.map_cons, List.map_nil, List.nil_append, List.cons_append, List.append_nil, Option.map_some, Option.bind_some, List.getElem?_cons_zero, List.getElem?_cons_succ, Bool.false_eq_true, not_true_eq_false, not_false_eq_true, List.contains_cons, List.contains_nil, Nat.reduceBEq, Bool.true_or, Bool.false_or, Bool.or_true, List.set_cons_zero, List.set_cons_succ, List.length_cons, List.length_nil, isLd, Bool.true_and, Bool.false_and, Bool.and_true, Bool.and_false]
  exact hk
/-- neighbours change places. -/
def sw (ys : List Int) (j : Nat) : List Int := (ys.set j (ys.getD (j - 1) 0)).set (j - 1) (ys.getD j 0)
theorem sw_len (ys : List Int) (j : Nat) : (sw ys j).length = ys.length := by simp [sw]
theorem sw_get {ys : List Int} {j : Nat} (h0 : 0 < j) (hj : j < ys.length) (p : Nat) : (sw ys j).getD p 0 = if p = j - 1 then ys.getD j 0 else if p = j then ys.getD (j - 1) 0 else ys.getD p 0 := by
  unfold sw
  rw [getD_set _ _ _ _ (by rw [List.length_set]; omega), getD_set _ _ _ _ hj]
/-- the same numbers, each once. -/
structure Same (xs ys : List Int) : Prop where
  len : ys.length = xs.length
  inj : ∀ p q, p < ys.length → q < ys.length → ys.getD p 0 = ys.getD q 0 → p = q
  mem : ∀ v, v ∈ ys ↔ v ∈ xs
theorem Same.sw {xs ys : List Int} (h : Same xs ys) {j : Nat} (h0 : 0 < j) (hj : j < ys.length) : Same xs (sw ys j) := by
  have hg := sw_get h0 hj
  refine ⟨by rw [sw_len]; exact h.len, fun p q hp hq e => ?_, fun v => ?_⟩
  · rw [sw_len] at hp hq
    rw [hg, hg] at e
    have key : ∀ a b, a < ys.length → b < ys.length → ys.getD a 0 = ys.getD b 0 → a = b := h.inj
    by_cases p1 : p = j - 1
    · by_cases q1 : q = j - 1
      · omega
      · rw [if_pos p1, if_neg q1] at e
        by_cases q2 : q = j
        · rw [if_pos q2] at e; have := key _ _ hj (by omega) e; omega
        · rw [if_neg q2] at e; have := key _ _ hj hq e; omega
    · by_cases p2 : p = j
      · rw [if_neg p1, if_pos p2] at e
        by_cases q1 : q = j - 1
        · rw [if_pos q1] at e; have := key _ _ (by omega) hj e; omega
        · by_cases q2 : q = j
          · omega
          · rw [if_neg q1, if_neg q2] at e; have := key _ _ (by omega) hq e; omega
      · rw [if_neg p1, if_neg p2] at e
        by_cases q1 : q = j - 1
        · rw [if_pos q1] at e; have := key _ _ hp hj e; omega
        · by_cases q2 : q = j
          · rw [if_neg q1, if_pos q2] at e; have := key _ _ hp (by omega) e; omega
          · rw [if_neg q1, if_neg q2] at e; exact key _ _ hp hq e
  · rw [← h.mem, mem_getD, mem_getD]
    constructor
    · rintro ⟨p, hp, rfl⟩
      rw [sw_len] at hp
      rw [hg]
      by_cases p1 : p = j - 1
      · rw [if_pos p1]; exact ⟨j, hj, rfl⟩
      · rw [if_neg p1]
        by_cases p2 : p = j
        · rw [if_pos p2]; exact ⟨j - 1, by omega, rfl⟩
        · rw [if_neg p2]; exact ⟨p, hp, rfl⟩
    · rintro ⟨p, hp, rfl⟩
      by_cases p1 : p = j - 1
      · exact ⟨j, by rw [sw_len]; exact hj, by rw [hg, if_neg (by omega), if_pos rfl, p1]⟩
      · by_cases p2 : p = j
        · exact ⟨j - 1, by rw [sw_len]; omega, by rw [hg, if_pos rfl, p2]⟩
        · exact ⟨p, by rw [sw_len]; exact hp, by rw [hg, if_neg p1, if_neg p2]⟩
theorem sw_cells {ys : List Int} {j : Nat} (h0 : 0 < j) (hj : j < ys.length) (r : List Value) : ((ys.map I64 ++ r).set j (.int .i64 (ys.getD (j - 1) 0))).set (j - 1) (.int .i64 (ys.getD j 0)) = (sw ys j).map I64 ++ r := by
  unfold sw
  rw [List.set_append_left _ _ (by rw [List.length_map]; exact hj), List.set_append_left _ _ (by rw [List.length_set, List.length_map]; omega), List.map_set, List.map_set]
  rfl
theorem slices_insertionSort_ok {G H : GH} {b c : Nat} {xs : List Int} {r : List Value} (hS : Sub H G) (hH : H b = none) (hb : G b = some ⟨xs.map I64 ++ r, true⟩) (hl : xs.length ≤ 12) (hnd : ∀ p q, p < xs.length → q < xs.length → xs.getD p 0 = xs.getD q 0 → p = q) {K : Value → GH → Prop}
    (hk : ∀ G' ys, Sub H G' → G' b = some ⟨ys.map I64 ++ r, true⟩ → Same xs ys → Rise ys → K (.tuple [].toArray) G') : GC Try.prog 264 [.slice (some ⟨b, 0, none⟩) xs.length c, .int .i64 0, .int .i64 xs.length] G K := by
  refine c_slices_insertionSortOrdered_int64_i (by simp) ?_
  have rdl : ∀ {G : GH} {ys : List Int}, G b = some ⟨ys.map I64 ++ r, true⟩ → ∀ i, i < ys.length → rd G (some ⟨b, i, none⟩) = some (.int .i64 (ys.getD i 0)) := fun h i hi => by
    simp only [rd, h, Option.bind_some]
    rw [List.getElem?_append_left (by rw [List.length_map]; exact hi)]
    exact ints_get _ i hi
  simp (maxSteps := 300000) (disch := omega) only [gs, gs2, gs3, ↓reduceIte, Nat.reduceEqDiff, Nat.mul_one, Nat.add_zero, Nat.zero_add, Nat.zero_mul, Int.toNat_natCast, Int.reduceToNat, Nat.reduceMul, Nat.reduceAdd, decide_true, decide_false, Bool.not_true, Bool.not_false, true_and, and_true, List.map_cons, List.map_nil, List.nil_append, List.cons_append, List.append_nil, Option.map_some, Option.bind_some, List.getElem?_cons_zero, List.getElem?_cons_succ, Bool.false_eq_true, not_true_eq_false, not_false_eq_true, List.contains_cons, List.contains_nil, Nat.reduceBEq, Bool.true_or, Bool.false_or, Bool.or_true, List.set_cons_zero, List.set_cons_succ, List.length_cons, List.length_nil, isLd, Bool.true_and, Bool.false_and, Bool.and_true, Bool.and_false]
  refine gLoop_intro (fun m T G' => ∃ (i : Nat) (ys : List Int), T 0 = .slice (some ⟨b, 0, none⟩) xs.length c ∧ T 1 = .int .i64 0 ∧ T 2 = .int .i64 xs.length ∧ T 6 = .int .i64 i ∧ m + i = xs.length + 1 ∧ 1 ≤ i ∧ Sub H G' ∧ G' b = some ⟨ys.map I64 ++ r, true⟩ ∧ Same xs ys ∧ ∀ p q, p < q → q < i → q < ys.length → ys.getD p 0 ≤ ys.getD q 0)
    xs.length ⟨1, xs, by simp (maxSteps := 300000) (disch := omega) only [gs, gs2, gs3, ↓reduceIte, Nat.reduceEqDiff, Nat.mul_one, Nat.add_zero, Nat.zero_add, Nat.zero_mul, Int.toNat_natCast, Int.reduceToNat, Nat.reduceMul, Nat.reduceAdd, decide_true, decide_false, Bool.not_true, Bool.not_false, true_and, and_true, List.map_cons, List.map_nil, List.nil_append, List.cons_append, List.append_nil, Option.map_some, Option.bind_some, List.getElem?_cons_zero, List.getElem?_cons_succ, Bool.false_eq_true, not_true_eq_false, not_false_eq_true, List.contains_cons, List.contains_nil, Nat.reduceBEq, Bool.true_or, Bool.false_or, Bool.or_true, List.set_cons_zero, List.set_cons_succ, List.length_cons, List.length_nil, isLd, Bool.true_and, Bool.false_and, Bool.and_true, Bool.and_false], by simp (maxSteps := 300000) (disch := omega) only [gs, gs2, gs3, ↓reduceIte, Nat.reduceEqDiff, Nat.mul_one, Nat.add_zero, Nat.zero_add, Nat.zero_mul, Int.toNat_natCast, Int.reduceToNat, Nat.reduceMul, Nat.reduceAdd, decide_true, decide_false, Bool.not_true, Bool.not_false, true_and, and_true, List.map_cons, List.map_nil, List.nil_append, List.cons_append, List.append_nil, Option.map_some, Option.bind_some, List.getElem?_cons_zero, List.getElem?_cons_succ, Bool.false_eq_true, not_true_eq_false, not_false_eq_true, List.contains_cons, List.contains_nil, Nat.reduceBEq, Bool.true_or, Bool.false_or, Bool.or_true, List.set_cons_zero, List.set_cons_succ, List.length_cons, List.length_nil, isLd, Bool.true_and, Bool.false_and, Bool.and_true, Bool.and_false], by simp (maxSteps := 300000) (disch := omega) only [gs, gs2, gs3, ↓reduceIte, Nat.reduceEqDiff, Nat.mul_one, Nat.add_zero, Nat.zero_add, Nat.zero_mul, Int.toNat_natCast, Int.reduceToNat, Nat.reduceMul, Nat.reduceAdd, decide_true, decide_false, Bool.not_true, Bool.not_false, true_and, and_true, List.map_cons, List.map_nil, List.nil_append, List.cons_append, List.append_nil, Option.map_some, Option.bind_some, List.getElem?_cons_zero, List.getElem?_cons_succ, Bool.false_eq_true, not_true_eq_false, not_false_eq_true, List.contains_cons, List.contains_nil, Nat.reduceBEq, Bool.true_or, Bool.false_or, Bool.or_true, List.set_cons_zero, List.set_cons_succ, List.length_cons, List.length_nil, isLd, Bool.true_and, Bool.false_and, Bool.and_true, Bool.and_false], by simp (maxSteps := 300000) (disch := omega) only [gs, gs2, gs3, ↓reduceIte, Nat.reduceEqDiff, Nat.mul_one, Nat.add_zero, Nat.zero_add, Nat.zero_mul, Int.toNat_natCast, Int.reduceToNat, Nat.reduceMul, Nat.reduceAdd, decide_true, decide_false, Bool.not_true, Bool.not_false, true_and, and_true, List.map_cons, List.map_nil, List.nil_append, List.cons_append, List.append_nil, Option.map_some, Option.bind_some, List.getElem?_cons_zero, List.getElem?_cons_succ, Bool.false_eq_true, not_true_eq_false, not_false_eq_true, List.contains_cons, List.contains_nil, Nat.reduceBEq, Bool.true_or, Bool.false_or, Bool.or_true, List.set_cons_zero, List.set_cons_succ, List.length_cons, List.length_nil, isLd, Bool.true_and, Bool.false_and, Bool.and_true, Bool.and_false] <;> rfl, by omega, by omega, hS, hb, ⟨rfl, hnd, fun v => Iff.rfl⟩, fun p q h1 h2 => by omega⟩ ?_
  rintro m T G' ⟨i, ys, e0, e1, e2, e6, hm, hi1, s, hys, hsm, hso⟩
  simp (maxSteps := 300000) (disch := omega) only [gs, gs2, gs3, ↓reduceIte, Nat.reduceEqDiff, Nat.mul_one, Nat.add_zero, Nat.zero_add, Nat.zero_mul, Int.toNat_natCast, Int.reduceToNat, Nat.reduceMul, Nat.reduceAdd, decide_true, decide_false, Bool.not_true, Bool.not_false, true_and, and_true, List.map_cons, List.map_nil, List.nil_append, List.cons_append, List.append_nil, Option.map_some, Option.bind_some, List.getElem?_cons_zero, List.getElem?_cons_succ, Bool.false_eq_true, not_true_eq_false, not_false_eq_true, List.contains_cons, List.contains_nil, Nat.reduceBEq, Bool.true_or, Bool.false_or, Bool.or_true, List.set_cons_zero, List.set_cons_succ, List.length_cons, List.length_nil, isLd, Bool.true_and, Bool.false_and, Bool.and_true, Bool.and_false, e0, e1, e2, e6]
  by_cases hi : (i : Int) < xs.length
  · simp (maxSteps := 300000) (disch := omega) only [gs, gs2, gs3, ↓reduceIte, Nat.reduceEqDiff, Nat.mul_one, Nat.add_zero, Nat.zero_add, Nat.zero_mul, Int.toNat_natCast, Int.reduceToNat, Nat.reduceMul, Nat.reduceAdd, decide_true, decide_false, Bool.not_true, Bool.not_false, true_and, and_true, List.map_cons, List.map_nil, List.nil_append, List.cons_append, List.append_nil, Option.map_some, Option.bind_some, List.getElem?_cons_zero, List.getElem?_cons_succ, Bool.false_eq_true, not_true_eq_false, not_false_eq_true, List.contains_cons, List.contains_nil, Nat.reduceBEq, Bool.true_or, Bool.false_or, Bool.or_true, List.set_cons_zero, List.set_cons_succ, List.length_cons, List.length_nil, isLd, Bool.true_and, Bool.false_and, Bool.and_true, Bool.and_false, hi, e0, e1, e2, e6]
    refine gLoop_intro (fun m' T G'' => ∃ (j : Nat) (ys : List Int), T 0 = .slice (some ⟨b, 0, none⟩) xs.length c ∧ T 1 = .int .i64 0 ∧ T 2 = .int .i64 xs.length ∧ T 6 = .int .i64 i ∧ T 7 = .int .i64 j ∧ m' = j ∧ j ≤ i ∧ Sub H G'' ∧ G'' b = some ⟨ys.map I64 ++ r, true⟩ ∧ Same xs ys ∧ ∀ p q, p < q → q ≤ i → q ≠ j → ys.getD p 0 ≤ ys.getD q 0)
      i ⟨i, ys, by simp (maxSteps := 300000) (disch := omega) only [gs, gs2, gs3, ↓reduceIte, Nat.reduceEqDiff, Nat.mul_one, Nat.add_zero, Nat.zero_add, Nat.zero_mul, Int.toNat_natCast, Int.reduceToNat, Nat.reduceMul, Nat.reduceAdd, decide_true, decide_false, Bool.not_true, Bool.not_false, true_and, and_true, List.map_cons, List.map_nil, List.nil_append, List.cons_append, List.append_nil, Option.map_some, Option.bind_some, List.getElem?_cons_zero, List.getElem?_cons_succ, Bool.false_eq_true, not_true_eq_false, not_false_eq_true, List.contains_cons, List.contains_nil, Nat.reduceBEq, Bool.true_or, Bool.false_or, Bool.or_true, List.set_cons_zero, List.set_cons_succ, List.length_cons, List.length_nil, isLd, Bool.true_and, Bool.false_and, Bool.and_true, Bool.and_false, e0], by simp (maxSteps := 300000) (disch := omega) only [gs, gs2, gs3, ↓reduceIte, Nat.reduceEqDiff, Nat.mul_one, Nat.add_zero, Nat.zero_add, Nat.zero_mul, Int.toNat_natCast, Int.reduceToNat, Nat.reduceMul, Nat.reduceAdd, decide_true, decide_false, Bool.not_true, Bool.not_false, true_and, and_true, List.map_cons, List.map_nil, List.nil_append, List.cons_append, List.append_nil, Option.map_some, Option.bind_some, List.getElem?_cons_zero, List.getElem?_cons_succ, Bool.false_eq_true, not_true_eq_false, not_false_eq_true, List.contains_cons, List.contains_nil, Nat.reduceBEq, Bool.true_or, Bool.false_or, Bool.or_true, List.set_cons_zero, List.set_cons_succ, List.length_cons, List.length_nil, isLd, Bool.true_and, Bool.false_and, Bool.and_true, Bool.and_false, e1], by simp (maxSteps := 300000) (disch := omega) only [gs, gs2, gs3, ↓reduceIte, Nat.reduceEqDiff, Nat.mul_one, Nat.add_zero, Nat.zero_add, Nat.zero_mul, Int.toNat_natCast, Int.reduceToNat, Nat.reduceMul, Nat.reduceAdd, decide_true, decide_false, Bool.not_true, Bool.not_false, true_and, and_true, List.map_cons, List.map_nil, List.nil_append, List.cons_append, List.append_nil, Option.map_some, Option.bind_some, List.getElem?_cons_zero, List.getElem?_cons_succ, Bool.false_eq_true, not_true_eq_false, not_false_eq_true, List.contains_cons, List.contains_nil, Nat.reduceBEq, Bool.true_or, Bool.false_or, Bool.or_true, List.set_cons_zero, List.set_cons_succ, List.length_cons, List.length_nil, isLd, Bool.true_and, Bool.false_and, Bool.and_true, Bool.and_false, e2], by simp (maxSteps := 300000) (disch := omega) only [gs, gs2, gs3, ↓reduceIte, Nat.reduceEqDiff, Nat.mul_one, Nat.add_zero, Nat.zero_add, Nat.zero_mul, Int.toNat_natCast, Int.reduceToNat, Nat.reduceMul, Nat.reduceAdd, decide_true, decide_false, Bool.not_true, Bool.not_false, true_and, and_true, List.map_cons, List.map_nil, List.nil_append, List.cons_append, List.append_nil, Option.map_some, Option.bind_some, List.getElem?_cons_zero, List.getElem?_cons_succ, Bool.false_eq_true, not_true_eq_false, not_false_eq_true, List.contains_cons, List.contains_nil, Nat.reduceBEq, Bool.true_or, Bool.false_or, Bool.or_true, List.set_cons_zero, List.set_cons_succ, List.length_cons, List.length_nil, isLd, Bool.true_and, Bool.false_and, Bool.and_true, Bool.and_false, e6], by simp (maxSteps := 300000) (disch := omega) only [gs, gs2, gs3, ↓reduceIte, Nat.reduceEqDiff, Nat.mul_one, Nat.add_zero, Nat.zero_add, Nat.zero_mul, Int.toNat_natCast, Int.reduceToNat, Nat.reduceMul, Nat.reduceAdd, decide_true, decide_false, Bool.not_true, Bool.not_false, true_and, and_true, List.map_cons, List.map_nil, List.nil_append, List.cons_append, List.append_nil, Option.map_some, Option.bind_some, List.getElem?_cons_zero, List.getElem?_cons_succ, Bool.false_eq_true, not_true_eq_false, not_false_eq_true, List.contains_cons, List.contains_nil, Nat.reduceBEq, Bool.true_or, Bool.false_or, Bool.or_true, List.set_cons_zero, List.set_cons_succ, List.length_cons, List.length_nil, isLd, Bool.true_and, Bool.false_and, Bool.and_true, Bool.and_false], rfl, Nat.le_refl _, s, hys, hsm, fun p q h1 h2 h3 => hso p q h1 (by omega) (by have := hsm.len; omega)⟩ ?_
    clear e0 e1 e2 e6 s hys hsm hso ys
    rintro m' T G'' ⟨j, ys, e0, e1, e2, e6, e7, rfl, hji, s, hys, hsm, hso⟩
    have u := rdl hys
    have hln := hsm.len
    simp (maxSteps := 300000) (disch := omega) only [gs, gs2, gs3, ↓reduceIte, Nat.reduceEqDiff, Nat.mul_one, Nat.add_zero, Nat.zero_add, Nat.zero_mul, Int.toNat_natCast, Int.reduceToNat, Nat.reduceMul, Nat.reduceAdd, decide_true, decide_false, Bool.not_true, Bool.not_false, true_and, and_true, List.map_cons, List.map_nil, List.nil_append, List.cons_append, List.append_nil, Option.map_some, Option.bind_some, List.getElem?_cons_zero, List.getElem?_cons_succ, Bool.false_eq_true, not_true_eq_false, not_false_eq_true, List.contains_cons, List.contains_nil, Nat.reduceBEq, Bool.true_or, Bool.false_or, Bool.or_true, List.set_cons_zero, List.set_cons_succ, List.length_cons, List.length_nil, isLd, Bool.true_and, Bool.false_and, Bool.and_true, Bool.and_false, e0, e1, e2, e6, e7]
    have done : (m' = 0 ∨ ys.getD (m' - 1) 0 ≤ ys.getD m' 0) → ∀ p q, p < q → q < i + 1 → q < ys.length → ys.getD p 0 ≤ ys.getD q 0 := fun h p q h1 h2 h3 => by
      by_cases hq : q = m'
      · subst hq
        rcases h with h | h
        · omega
        · by_cases hp : p = q - 1
          · rw [hp]; exact h
          · exact Int.le_trans (hso p (q - 1) (by omega) (by omega) (by omega)) h
      · exact hso p q h1 (by omega) hq
    by_cases h0 : (0 : Int) < m'
    · have hj1 : ((m' : Int) - 1).toNat = m' - 1 := by omega
      simp (maxSteps := 300000) (disch := omega) only [gs, gs2, gs3, ↓reduceIte, Nat.reduceEqDiff, Nat.mul_one, Nat.add_zero, Nat.zero_add, Nat.zero_mul, Int.toNat_natCast, Int.reduceToNat, Nat.reduceMul, Nat.reduceAdd, decide_true, decide_false, Bool.not_true, Bool.not_false, true_and, and_true, List.map_cons, List.map_nil, List.nil_append, List.cons_append, List.append_nil, Option.map_some, Option.bind_some, List.getElem?_cons_zero, List.getElem?_cons_succ, Bool.false_eq_true, not_true_eq_false, not_false_eq_true, List.contains_cons, List.contains_nil, Nat.reduceBEq, Bool.true_or, Bool.false_or, Bool.or_true, List.set_cons_zero, List.set_cons_succ, List.length_cons, List.length_nil, isLd, Bool.true_and, Bool.false_and, Bool.and_true, Bool.and_false, h0, e0, e1, e2, e6, e7, u]
      rw [hj1]
      refine cmp_Less_ok _ _ ?_
      by_cases hlt : ys.getD m' 0 < ys.getD (m' - 1) 0
      · simp (maxSteps := 300000) (disch := omega) only [gs, gs2, gs3, ↓reduceIte, Nat.reduceEqDiff, Nat.mul_one, Nat.add_zero, Nat.zero_add, Nat.zero_mul, Int.toNat_natCast, Int.reduceToNat, Nat.reduceMul, Nat.reduceAdd, decide_true, decide_false, Bool.not_true, Bool.not_false, true_and, and_true, List.map_cons, List.map_nil, List.nil_append, List.cons_append, List.append_nil, Option.map_some, Option.bind_some, List.getElem?_cons_zero, List.getElem?_cons_succ, Bool.false_eq_true, not_true_eq_false, not_false_eq_true, List.contains_cons, List.contains_nil, Nat.reduceBEq, Bool.true_or, Bool.false_or, Bool.or_true, List.set_cons_zero, List.set_cons_succ, List.length_cons, List.length_nil, isLd, Bool.true_and, Bool.false_and, Bool.and_true, Bool.and_false, hlt, e0, e1, e2, e6, e7, u]
        rw [hj1]
        refine st_one hys (by rw [List.length_append, List.length_map]; omega) rfl ?_
        simp (maxSteps := 300000) (disch := omega) only [gs, gs2, gs3, ↓reduceIte, Nat.reduceEqDiff, Nat.mul_one, Nat.add_zero, Nat.zero_add, Nat.zero_mul, Int.toNat_natCast, Int.reduceToNat, Nat.reduceMul, Nat.reduceAdd, decide_true, decide_false, Bool.not_true, Bool.not_false, true_and, and_true, List.map_cons, List.map_nil, List.nil_append, List.cons_append, List.append_nil, Option.map_some, Option.bind_some, List.getElem?_cons_zero, List.getElem?_cons_succ, Bool.false_eq_true, not_true_eq_false, not_false_eq_true, List.contains_cons, List.contains_nil, Nat.reduceBEq, Bool.true_or, Bool.false_or, Bool.or_true, List.set_cons_zero, List.set_cons_succ, List.length_cons, List.length_nil, isLd, Bool.true_and, Bool.false_and, Bool.and_true, Bool.and_false, e0, e1, e2, e6, e7]
        rw [hj1]
        refine st_one (put_same _ _ _) (by rw [List.length_set, List.length_append, List.length_map]; omega) rfl ?_
        simp (maxSteps := 300000) (disch := omega) only [gs, gs2, gs3, ↓reduceIte, Nat.reduceEqDiff, Nat.mul_one, Nat.add_zero, Nat.zero_add, Nat.zero_mul, Int.toNat_natCast, Int.reduceToNat, Nat.reduceMul, Nat.reduceAdd, decide_true, decide_false, Bool.not_true, Bool.not_false, true_and, and_true, List.map_cons, List.map_nil, List.nil_append, List.cons_append, List.append_nil, Option.map_some, Option.bind_some, List.getElem?_cons_zero, List.getElem?_cons_succ, Bool.false_eq_true, not_true_eq_false, not_false_eq_true, List.contains_cons, List.contains_nil, Nat.reduceBEq, Bool.true_or, Bool.false_or, Bool.or_true, List.set_cons_zero, List.set_cons_succ, List.length_cons, List.length_nil, isLd, Bool.true_and, Bool.false_and, Bool.and_true, Bool.and_false, e0, e1, e2, e6, e7, put_put']
        rw [sw_cells (by omega) (by omega)]
        have hg := sw_get (ys := ys) (j := m') (by omega) (by omega)
        refine ⟨m' - 1, by omega, _, Sub.refl _, m' - 1, sw ys m', by congr 1; omega, rfl, by omega, s.skip hH, put_same _ _ _, hsm.sw (by omega) (by omega), fun p q h1 h2 h3 => ?_⟩
        rw [hg, hg]
        by_cases q2 : q = m'
        · rw [if_neg h3, if_pos q2]
          by_cases p1 : p = m' - 1
          · rw [if_pos p1]; omega
          · rw [if_neg p1, if_neg (by omega)]; exact hso p (m' - 1) (by omega) (by omega) (by omega)
        · rw [if_neg h3, if_neg q2]
          by_cases p1 : p = m' - 1
          · rw [if_pos p1]; exact hso m' q (by omega) h2 q2
          · by_cases p2 : p = m'
            · rw [if_neg p1, if_pos p2]; exact hso (m' - 1) q (by omega) h2 q2
            · rw [if_neg p1, if_neg p2]; exact hso p q h1 h2 q2
      · simp (maxSteps := 300000) (disch := omega) only [gs, gs2, gs3, ↓reduceIte, Nat.reduceEqDiff, Nat.mul_one, Nat.add_zero, Nat.zero_add, Nat.zero_mul, Int.toNat_natCast, Int.reduceToNat, Nat.reduceMul, Nat.reduceAdd, decide_true, decide_false, Bool.not_true, Bool.not_false, true_and, and_true, List.map_cons, List.map_nil, List.nil_append, List.cons_append, List.append_nil, Option.map_some, Option.bind_some, List.getElem?_cons_zero, List.getElem?_cons_succ, Bool.false_eq_true, not_true_eq_false, not_false_eq_true, List.contains_cons, List.contains_nil, Nat.reduceBEq, Bool.true_or, Bool.false_or, Bool.or_true, List.set_cons_zero, List.set_cons_succ, List.length_cons, List.length_nil, isLd, Bool.true_and, Bool.false_and, Bool.and_true, Bool.and_false, hlt, e0, e1, e2, e6, e7]
        exact ⟨m - 1, by omega, G'', Sub.refl _, i + 1, ys, rfl, by omega, by omega, s, hys, hsm, done (.inr (by omega))⟩
    · simp (maxSteps := 300000) (disch := omega) only [gs, gs2, gs3, ↓reduceIte, Nat.reduceEqDiff, Nat.mul_one, Nat.add_zero, Nat.zero_add, Nat.zero_mul, Int.toNat_natCast, Int.reduceToNat, Nat.reduceMul, Nat.reduceAdd, decide_true, decide_false, Bool.not_true, Bool.not_false, true_and, and_true, List.map_cons, List.map_nil, List.nil_append, List.cons_append, List.append_nil, Option.map_some, Option.bind_some, List.getElem?_cons_zero, List.getElem?_cons_succ, Bool.false_eq_true, not_true_eq_false, not_false_eq_true, List.contains_cons, List.contains_nil, Nat.reduceBEq, Bool.true_or, Bool.false_or, Bool.or_true, List.set_cons_zero, List.set_cons_succ, List.length_cons, List.length_nil, isLd, Bool.true_and, Bool.false_and, Bool.and_true, Bool.and_false, h0, e0, e1, e2, e6, e7]
      exact ⟨m - 1, by omega, G'', Sub.refl _, i + 1, ys, rfl, by omega, by omega, s, hys, hsm, done (.inl (by omega))⟩
  · simp (maxSteps := 300000) (disch := omega) only [gs, gs2, gs3, ↓reduceIte, Nat.reduceEqDiff, Nat.mul_one, Nat.add_zero, Nat.zero_add, Nat.zero_mul, Int.toNat_natCast, Int.reduceToNat, Nat.reduceMul, Nat.reduceAdd, decide_true, decide_false, Bool.not_true, Bool.not_false, true_and, and_true, List.map_cons, List.map_nil, List.nil_append, List.cons_append, List.append_nil, Option.map_some, Option.bind_some, List.getElem?_cons_zero, List.getElem?_cons_succ, Bool.false_eq_true, not_true_eq_false, not_false_eq_true, List.contains_cons, List.contains_nil, Nat.reduceBEq, Bool.true_or, Bool.false_or, Bool.or_true, List.set_cons_zero, List.set_cons_succ, List.length_cons, List.length_nil, isLd, Bool.true_and, Bool.false_and, Bool.and_true, Bool.and_false, hi, e0, e1, e2, e6]
    refine hk _ ys s hys hsm fun p hp => ?_
    have h1 := hso p (p + 1) (by omega) (by have := hsm.len; omega) hp
    have h2 : ys.getD p 0 ≠ ys.getD (p + 1) 0 := fun e => by have := hsm.inj p (p + 1) (by omega) hp e; omega
    omega
theorem wu64 (n : Int) (h0 : 0 ≤ n) (h1 : n < 18446744073709551616) : IntKind.u64.wrap n = n := by rw [IntKind.wrap_u64]; omega
theorem wu8 (n : Int) (h0 : 0 ≤ n) (h1 : n < 256) : IntKind.u8.wrap n = n := by rw [IntKind.wrap_u8]; omega
theorem gL_ixs {P : Program} {r : List GOp} {K : (Nat → Value) → GH → Prop} {T : Nat → Value} {d : Option Nat} {G : GH} {s : ByteArray} {k : IntKind} {n : Nat} (h : n < s.size) (hz : ∀ z : Int, gL P r K T d G (some (.int .u8 z))) : gL P r K T d G (ixsV (.string s) (.int k n)) := by
  have : ixsV (.string s) (.int k n) = some (.int .u8 (s[n]).toNat) := by
    simp [ixsV, onStr, onInt, h]
  rw [this]; exact hz _
set_option maxRecDepth 20000 in
theorem bits_Len_ok {G : GH} (n : Nat) (hn : n ≤ 12) {K : Value → GH → Prop} (hk : ∀ z, K (.int .i64 z) G) : GC Try.prog 261 [.int .u64 n] G K := by
  refine c_math_bits_Len_i (by simp) ?_
  simp (maxSteps := 300000) (disch := omega) only [gs, gs2, gs3, ↓reduceIte, Nat.reduceEqDiff, Nat.mul_one, Nat.add_zero, Nat.zero_add, Nat.zero_mul, Int.toNat_natCast, Int.reduceToNat, Nat.reduceMul, Nat.reduceAdd, decide_true, decide_false, Bool.not_true, Bool.not_false, true_and, and_true, List.map_cons, List.map_nil, List.nil_append, List.cons_append, List.append_nil, Option.map_some, Option.bind_some, List.getElem?_cons_zero, List.getElem?_cons_succ, Bool.false_eq_true, not_true_eq_false, not_false_eq_true, List.contains_cons, List.contains_nil, Nat.reduceBEq, Bool.true_or, Bool.false_or, Bool.or_true, List.set_cons_zero, List.set_cons_succ, List.length_cons, List.length_nil, isLd, Bool.true_and, Bool.false_and, Bool.and_true, Bool.and_false]
  refine c_math_bits_Len64_i (by simp) ?_
  simp (maxSteps := 300000) (disch := omega) only [gs, gs2, gs3, ↓reduceIte, Nat.reduceEqDiff, Nat.mul_one, Nat.add_zero, Nat.zero_add, Nat.zero_mul, Int.toNat_natCast, Int.reduceToNat, Nat.reduceMul, Nat.reduceAdd, decide_true, decide_false, Bool.not_true, Bool.not_false, true_and, and_true, List.map_cons, List.map_nil, List.nil_append, List.cons_append, List.append_nil, Option.map_some, Option.bind_some, List.getElem?_cons_zero, List.getElem?_cons_succ, Bool.false_eq_true, not_true_eq_false, not_false_eq_true, List.contains_cons, List.contains_nil, Nat.reduceBEq, Bool.true_or, Bool.false_or, Bool.or_true, List.set_cons_zero, List.set_cons_succ, List.length_cons, List.length_nil, isLd, Bool.true_and, Bool.false_and, Bool.and_true, Bool.and_false, show ((4294967296 : Int) ≤ n) = False from eq_false (by omega), show ((65536 : Int) ≤ n) = False from eq_false (by omega), show ((256 : Int) ≤ n) = False from eq_false (by omega), wu8]
  refine gL_ixs (Nat.lt_of_lt_of_le (show n < 256 by omega) (by decide +kernel)) fun z => ?_
  simp (maxSteps := 300000) (disch := omega) only [gs, gs2, gs3, ↓reduceIte, Nat.reduceEqDiff, Nat.mul_one, Nat.add_zero, Nat.zero_add, Nat.zero_mul, Int.toNat_natCast, Int.reduceToNat, Nat.reduceMul, Nat.reduceAdd, decide_true, decide_false, Bool.not_true, Bool.not_false, true_and, and_true, List.map_cons, List.map_nil, List.nil_append, List.cons_append, List.append_nil, Option.map_some, Option.bind_some, List.getElem?_cons_zero, List.getElem?_cons_succ, Bool.false_eq_true, not_true_eq_false, not_false_eq_true, List.contains_cons, List.contains_nil, Nat.reduceBEq, Bool.true_or, Bool.false_or, Bool.or_true, List.set_cons_zero, List.set_cons_succ, List.length_cons, List.length_nil, isLd, Bool.true_and, Bool.false_and, Bool.and_true, Bool.and_false]
  exact hk _
theorem slices_Sort_ok {G H : GH} {b c : Nat} {xs : List Int} {r : List Value} (hS : Sub H G) (hH : H b = none) (hb : G b = some ⟨xs.map I64 ++ r, true⟩) (hl : xs.length ≤ 12) (hnd : ∀ p q, p < xs.length → q < xs.length → xs.getD p 0 = xs.getD q 0 → p = q) {K : Value → GH → Prop}
    (hk : ∀ G' ys, Sub H G' → G' b = some ⟨ys.map I64 ++ r, true⟩ → Same xs ys → Rise ys → K (.tuple [].toArray) G') : GC Try.prog 244 [.slice (some ⟨b, 0, none⟩) xs.length c] G K := by
  refine c_slices_Sort_int64_int64_i (by simp) ?_
  simp (maxSteps := 300000) (disch := omega) only [gs, gs2, gs3, ↓reduceIte, Nat.reduceEqDiff, Nat.mul_one, Nat.add_zero, Nat.zero_add, Nat.zero_mul, Int.toNat_natCast, Int.reduceToNat, Nat.reduceMul, Nat.reduceAdd, decide_true, decide_false, Bool.not_true, Bool.not_false, true_and, and_true, List.map_cons, List.map_nil, List.nil_append, List.cons_append, List.append_nil, Option.map_some, Option.bind_some, List.getElem?_cons_zero, List.getElem?_cons_succ, Bool.false_eq_true, not_true_eq_false, not_false_eq_true, List.contains_cons, List.contains_nil, Nat.reduceBEq, Bool.true_or, Bool.false_or, Bool.or_true, List.set_cons_zero, List.set_cons_succ, List.length_cons, List.length_nil, isLd, Bool.true_and, Bool.false_and, Bool.and_true, Bool.and_false]
  rw [wu64 _ (by omega) (by omega)]
  refine bits_Len_ok xs.length hl fun z => ?_
  simp (maxSteps := 300000) (disch := omega) only [gs, gs2, gs3, ↓reduceIte, Nat.reduceEqDiff, Nat.mul_one, Nat.add_zero, Nat.zero_add, Nat.zero_mul, Int.toNat_natCast, Int.reduceToNat, Nat.reduceMul, Nat.reduceAdd, decide_true, decide_false, Bool.not_true, Bool.not_false, true_and, and_true, List.map_cons, List.map_nil, List.nil_append, List.cons_append, List.append_nil, Option.map_some, Option.bind_some, List.getElem?_cons_zero, List.getElem?_cons_succ, Bool.false_eq_true, not_true_eq_false, not_false_eq_true, List.contains_cons, List.contains_nil, Nat.reduceBEq, Bool.true_or, Bool.false_or, Bool.or_true, List.set_cons_zero, List.set_cons_succ, List.length_cons, List.length_nil, isLd, Bool.true_and, Bool.false_and, Bool.and_true, Bool.and_false]
  refine c_slices_pdqsortOrdered_int64_i (by simp) ?_
  simp (maxSteps := 300000) (disch := omega) only [gs, gs2, gs3, ↓reduceIte, Nat.reduceEqDiff, Nat.mul_one, Nat.add_zero, Nat.zero_add, Nat.zero_mul, Int.toNat_natCast, Int.reduceToNat, Nat.reduceMul, Nat.reduceAdd, decide_true, decide_false, Bool.not_true, Bool.not_false, true_and, and_true, List.map_cons, List.map_nil, List.nil_append, List.cons_append, List.append_nil, Option.map_some, Option.bind_some, List.getElem?_cons_zero, List.getElem?_cons_succ, Bool.false_eq_true, not_true_eq_false, not_false_eq_true, List.contains_cons, List.contains_nil, Nat.reduceBEq, Bool.true_or, Bool.false_or, Bool.or_true, List.set_cons_zero, List.set_cons_succ, List.length_cons, List.length_nil, isLd, Bool.true_and, Bool.false_and, Bool.and_true, Bool.and_false]
  refine gLoop_intro (fun m T G' => T 0 = .slice (some ⟨b, 0, none⟩) xs.length c ∧ T 1 = .int .i64 0 ∧ T 2 = .int .i64 xs.length ∧ G' = G) 0 ⟨by simp (maxSteps := 300000) (disch := omega) only [gs, gs2, gs3, ↓reduceIte, Nat.reduceEqDiff, Nat.mul_one, Nat.add_zero, Nat.zero_add, Nat.zero_mul, Int.toNat_natCast, Int.reduceToNat, Nat.reduceMul, Nat.reduceAdd, decide_true, decide_false, Bool.not_true, Bool.not_false, true_and, and_true, List.map_cons, List.map_nil, List.nil_append, List.cons_append, List.append_nil, Option.map_some, Option.bind_some, List.getElem?_cons_zero, List.getElem?_cons_succ, Bool.false_eq_true, not_true_eq_false, not_false_eq_true, List.contains_cons, List.contains_nil, Nat.reduceBEq, Bool.true_or, Bool.false_or, Bool.or_true, List.set_cons_zero, List.set_cons_succ, List.length_cons, List.length_nil, isLd, Bool.true_and, Bool.false_and, Bool.and_true, Bool.and_false], by simp (maxSteps := 300000) (disch := omega) only [gs, gs2, gs3, ↓reduceIte, Nat.reduceEqDiff, Nat.mul_one, Nat.add_zero, Nat.zero_add, Nat.zero_mul, Int.toNat_natCast, Int.reduceToNat, Nat.reduceMul, Nat.reduceAdd, decide_true, decide_false, Bool.not_true, Bool.not_false, true_and, and_true, List.map_cons, List.map_nil, List.nil_append, List.cons_append, List.append_nil, Option.map_some, Option.bind_some, List.getElem?_cons_zero, List.getElem?_cons_succ, Bool.false_eq_true, not_true_eq_false, not_false_eq_true, List.contains_cons, List.contains_nil, Nat.reduceBEq, Bool.true_or, Bool.false_or, Bool.or_true, List.set_cons_zero, List.set_cons_succ, List.length_cons, List.length_nil, isLd, Bool.true_and, Bool.false_and, Bool.and_true, Bool.and_false], by simp (maxSteps := 300000) (disch := omega) only [gs, gs2, gs3, ↓reduceIte, Nat.reduceEqDiff, Nat.mul_one, Nat.add_zero, Nat.zero_add, Nat.zero_mul, Int.toNat_natCast, Int.reduceToNat, Nat.reduceMul, Nat.reduceAdd, decide_true, decide_false, Bool.not_true, Bool.not_false, true_and, and_true, List.map_cons, List.map_nil, List.nil_append, List.cons_append, List.append_nil, Option.map_some, Option.bind_some, List.getElem?_cons_zero, List.getElem?_cons_succ, Bool.false_eq_true, not_true_eq_false, not_false_eq_true, List.contains_cons, List.contains_nil, Nat.reduceBEq, Bool.true_or, Bool.false_or, Bool.or_true, List.set_cons_zero, List.set_cons_succ, List.length_cons, List.length_nil, isLd, Bool.true_and, Bool.false_and, Bool.and_true, Bool.and_false], rfl⟩ ?_
  rintro m T G' ⟨e0, e1, e2, rfl⟩
  simp (maxSteps := 300000) (disch := omega) only [gs, gs2, gs3, ↓reduceIte, Nat.reduceEqDiff, Nat.mul_one, Nat.add_zero, Nat.zero_add, Nat.zero_mul, Int.toNat_natCast, Int.reduceToNat, Nat.reduceMul, Nat.reduceAdd, decide_true, decide_false, Bool.not_true, Bool.not_false, true_and, and_true, List.map_cons, List.map_nil, List.nil_append, List.cons_append, List.append_nil, Option.map_some, Option.bind_some, List.getElem?_cons_zero, List.getElem?_cons_succ, Bool.false_eq_true, not_true_eq_false, not_false_eq_true, List.contains_cons, List.contains_nil, Nat.reduceBEq, Bool.true_or, Bool.false_or, Bool.or_true, List.set_cons_zero, List.set_cons_succ, List.length_cons, List.length_nil, isLd, Bool.true_and, Bool.false_and, Bool.and_true, Bool.and_false, e0, e1, e2, Int.sub_zero]
  have h12 : (xs.length : Int) ≤ 12 := by omega
  simp (maxSteps := 300000) (disch := omega) only [gs, gs2, gs3, ↓reduceIte, Nat.reduceEqDiff, Nat.mul_one, Nat.add_zero, Nat.zero_add, Nat.zero_mul, Int.toNat_natCast, Int.reduceToNat, Nat.reduceMul, Nat.reduceAdd, decide_true, decide_false, Bool.not_true, Bool.not_false, true_and, and_true, List.map_cons, List.map_nil, List.nil_append, List.cons_append, List.append_nil, Option.map_some, Option.bind_some, List.getElem?_cons_zero, List.getElem?_cons_succ, Bool.false_eq_true, not_true_eq_false, not_false_eq_true, List.contains_cons, List.contains_nil, Nat.reduceBEq, Bool.true_or, Bool.false_or, Bool.or_true, List.set_cons_zero, List.set_cons_succ, List.length_cons, List.length_nil, isLd, Bool.true_and, Bool.false_and, Bool.and_true, Bool.and_false, h12, e0, e1, e2]
  refine slices_insertionSort_ok hS hH hb hl hnd fun G3 ys s h1 h2 h3 => ?_
  simp (maxSteps := 300000) (disch := omega) only [gs, gs2, gs3, ↓reduceIte, Nat.reduceEqDiff, Nat.mul_one, Nat.add_zero, Nat.zero_add, Nat.zero_mul, Int.toNat_natCast, Int.reduceToNat, Nat.reduceMul, Nat.reduceAdd, decide_true, decide_false, Bool.not_true, Bool.not_false, true_and, and_true, List.map_cons, List.map_nil, List.nil_append, List.cons_append, List.append_nil, Option.map_some, Option.bind_some, List.getElem?_cons_zero, List.getElem?_cons_succ, Bool.false_eq_true, not_true_eq_false, not_false_eq_true, List.contains_cons, List.contains_nil, Nat.reduceBEq, Bool.true_or, Bool.false_or, Bool.or_true, List.set_cons_zero, List.set_cons_succ, List.length_cons, List.length_nil, isLd, Bool.true_and, Bool.false_and, Bool.and_true, Bool.and_false]
  exact hk _ ys s h1 h2 h3
/-- the result of a function that returns a list and a code. -/
abbrev LI (v : List Int × Int) (K : Value → GH → Prop) (G : GH) : Prop := ∀ G' A c, New G G' A c (v.1.map I64) 1 v.1.length → K (.tuple [.slice A v.1.length c, .int .i64 v.2].toArray) G'
theorem LI.err {K : Value → GH → Prop} {G : GH} {v : List Int × Int} {code : Int} (hk : LI v K G) (h : v = ([], code)) : K (.tuple [.slice none 0 0, .int .i64 code].toArray) G := by
  subst h; exact hk G none 0 (New.nil _ _)
theorem filter_iota (p : Int → Bool) (k : Nat) : (iota (k + 1)).filter p = if p k = true then (iota k).filter p ++ [(k : Int)] else (iota k).filter p := by
  rw [iota_succ, List.filter_append]
  by_cases h : p k = true
  · rw [if_pos h]; simp [h]
  · rw [if_neg h]; simp [h]
theorem IntS.cells {G : GH} {A : Option Addr} {c : Nat} {xs : List Int} (h : IntS G A c xs) : Cells G A (xs.map I64) := fun i v hv => by
  rw [List.getElem?_map] at hv
  obtain ⟨x, hx, rfl⟩ := Option.map_eq_some_iff.1 hv
  have hi := (List.getElem?_eq_some_iff.1 hx).1
  rw [h.rd i hi]
  simp [List.getD, hx, I64]
theorem New.rdF {G G' : GH} {A : Option Addr} {c n : Nat} {f : Int → Int} (h : New G G' A c (fcells n f) 1 n) {v : Int} (h0 : 0 ≤ v) (h1 : v < n) : rd G' (pa A v.toNat) = some (.int .i64 (f v)) := by
  refine h.cells v.toNat _ ?_
  have := fcells_get (b := f) (rest := []) h0 h1
  rw [List.append_nil] at this; exact this
theorem rise_lt {xs : List Int} (h : Rise xs) : ∀ (d i : Nat), i + d + 1 < xs.length → xs.getD i 0 < xs.getD (i + d + 1) 0
  | 0, i, hi => h i hi
  | d + 1, i, hi => by
    have h1 := rise_lt h d i (by omega)
    have h2 := h (i + d + 1) (by omega)
    rw [show i + (d + 1) + 1 = i + d + 1 + 1 by omega]
    omega
theorem rise_pw {xs : List Int} (h : Rise xs) : xs.Pairwise (· < ·) := by
  rw [List.pairwise_iff_getElem]
  intro i j hi hj hij
  have := rise_lt h (j - i - 1) i (by omega)
  rw [show i + (j - i - 1) + 1 = j by omega] at this
  simpa [List.getD, hi, hj] using this
theorem pw_ext : ∀ (xs ys : List Int), xs.Pairwise (· < ·) → ys.Pairwise (· < ·) → (∀ v, v ∈ xs ↔ v ∈ ys) → xs = ys
  | [], [], _, _, _ => rfl
  | [], b :: ys, _, _, h => by have := (h b).2 (by simp); simp at this
  | a :: xs, [], _, _, h => by have := (h a).1 (by simp); simp at this
  | a :: xs, b :: ys, h1, h2, h => by
    rw [List.pairwise_cons] at h1 h2
    have hab : a = b := by
      rcases List.mem_cons.1 ((h a).1 (by simp)) with e | m
      · exact e
      · rcases List.mem_cons.1 ((h b).2 (by simp)) with e | m'
        · exact e.symm
        · have := h2.1 a m; have := h1.1 b m'; omega
    subst hab
    rw [pw_ext xs ys h1.2 h2.2 fun v => ?_]
    constructor
    · intro hv
      have := h1.1 v hv
      rcases List.mem_cons.1 ((h v).1 (List.mem_cons_of_mem _ hv)) with e | m
      · omega
      · exact m
    · intro hv
      have := h2.1 v hv
      rcases List.mem_cons.1 ((h v).2 (List.mem_cons_of_mem _ hv)) with e | m
      · omega
      · exact m
theorem iota_pw (n : Nat) : (iota n).Pairwise (· < ·) := by
  rw [List.pairwise_iff_getElem]
  intro i j hi hj hij
  simp only [iota, List.getElem_map, List.getElem_range]
  omega
/-- the sorted nodes that are marked at last. -/
theorem side_sorted {N : Net} (hn : NetOk N) {ys : List Int} (h : Same (reach N.arcs (greatV N) N.n.toNat N.s).q ys) (hr : Rise ys) : ys = sideV N := by
  have h1 := hn.1
  have h2 := hn.2.1
  have hI := BI.reach (es := N.arcs) (fl := greatV N) (n := N.n.toNat) (s := N.s) (by omega)
  refine pw_ext _ _ (rise_pw hr) ((iota_pw _).filter _) fun v => ?_
  rw [h.mem]
  constructor
  · intro hv
    have := hI.rng v hv
    exact (side_mem hn (by omega) (by omega)).2 ((hI.inq v (by omega)).1 hv)
  · intro hv
    have hm := hv
    unfold sideV at hm
    have hm := (List.mem_filter.1 hm).1
    unfold iota at hm
    obtain ⟨i, hi, rfl⟩ := List.mem_map.1 hm
    have hi := List.mem_range.1 hi
    exact (hI.inq _ (by omega)).2 ((side_mem hn (by omega) (by omega)).1 hv)
def del (G : GH) (b : Nat) : GH := fun x => if x = b then none else G x
theorem del_none (G : GH) (b : Nat) : del G b b = none := if_pos rfl
theorem Sub.del (G : GH) (b : Nat) : Sub (Gh.del G b) G := fun x e h => by
  unfold Gh.del at h; split at h
  · cases h
  · exact h
theorem Sub.in_del {K G : GH} {b : Nat} (s : Sub K G) (h : K b = Option.none) : Sub K (Gh.del G b) := fun x e hx => by
  have hxb : x ≠ b := fun e' => by rw [e', h] at hx; cases hx
  unfold Gh.del; rw [if_neg hxb]; exact s x e hx
theorem del_ne (G : GH) {b x : Nat} (h : x ≠ b) : del G b x = G x := if_neg h
theorem BI.inj {es : List T3} {fl : List Int} {n : Nat} {s : Int} {st : BS} (h : BI es fl n s st) : ∀ p q, p < st.q.length → q < st.q.length → st.q.getD p 0 = st.q.getD q 0 → p = q := fun p q hp hq e => q_inj h.nd hp hq e
/-- what is known while the greatest flow is sought. -/
structure LG (G1 G : GH) (N : Net) (bF bR : Nat) (Ao : Option Addr) (co : Nat) (fl : List Int) : Prop where
  sub : Sub G1 G
  nF : G1 bF = none
  f : G bF = some ⟨fl.map I64, true⟩
  r : G bR = some ⟨fcells N.n.toNat (fromF N.s (reach N.arcs fl N.n.toNat N.s)), true⟩
  own : Own G Ao co ((reach N.arcs fl N.n.toNat N.s).q.map I64) 1 (reach N.arcs fl N.n.toNat N.s).q.length
  off : Off G1 Ao
  ne : ∀ a, Ao = some a → a.block ≠ bF
  neR : bR ≠ bF
theorem LG.of {G1 G G' : GH} {N : Net} {bF bR co : Nat} {Ao : Option Addr} {fl : List Int} (s : Sub G1 G) (nF : G1 bF = none) (hf : G bF = some ⟨fl.map I64, true⟩) (hR : G bR = none)
    (hN : New (put G bR ⟨fcells N.n.toNat (fromF N.s (reach N.arcs fl N.n.toNat N.s)), true⟩) G' Ao co ((reach N.arcs fl N.n.toNat N.s).q.map I64) 1 (reach N.arcs fl N.n.toNat N.s).q.length) : LG G1 G' N bF bR Ao co fl := by
  have s1 := (Sub.put hR ⟨fcells N.n.toNat (fromF N.s (reach N.arcs fl N.n.toNat N.s)), true⟩).trans hN.sub
  refine ⟨s.trans s1, nF, s1 _ _ hf, hN.sub _ _ (put_same _ _ _), hN.fresh, (hN.off.mono (Sub.put hR _)).mono s, fun a ha e => ?_, (blk_ne hf hR).symm⟩
  have := (hN.off.mono (Sub.put hR _)) a ha
  rw [e, hf] at this; cases this
theorem impl_greatestFlow_ok {G : GH} {N : Net} {A : Option Addr} {c : Nat} (h : T3S G A c N.arcs) (hn : NetOk N) {K : Value → GH → Prop}
    (hk : ∀ G' bF bO cO r, G bF = none → G bO = none → Sub G G' → G' bF = some ⟨(greatV N).map I64, true⟩ → G' bO = some ⟨(sideV N).map I64 ++ r, true⟩ → (sideV N).length + r.length = cO → bF ≠ bO →
      K (.tuple [.slice (some ⟨bF, 0, none⟩) N.arcs.length N.arcs.length, .slice (some ⟨bO, 0, none⟩) (sideV N).length cO].toArray) G') : GC Try.prog 190 [netV N A c] G K := by
  refine GC_drop (c_impl_greatestFlow_i (by simp) ?_)
  have n1 := hn.1
  have n2 := hn.2.1
  have n3 := hn.2.2.1
  have n4 := hn.2.2.2.1
  have n5 := hn.2.2.2.2.2
  unfold netV netC
  simp (maxSteps := 300000) (disch := omega) only [gs, gs2, gs3, ↓reduceIte, Nat.reduceEqDiff, Nat.mul_one, Nat.add_zero, Nat.zero_add, Nat.zero_mul, Int.toNat_natCast, Int.reduceToNat, Nat.reduceMul, Nat.reduceAdd, decide_true, decide_false, Bool.not_true, Bool.not_false, true_and, and_true, List.map_cons, List.map_nil, List.nil_append, List.cons_append, List.append_nil, Option.map_some, Option.bind_some, List.getElem?_cons_zero, List.getElem?_cons_succ, Bool.false_eq_true, not_true_eq_false, not_false_eq_true, List.contains_cons, List.contains_nil, Nat.reduceBEq, Bool.true_or, Bool.false_or, Bool.or_true, List.set_cons_zero, List.set_cons_succ, List.length_cons, List.length_nil, isLd, Bool.true_and, Bool.false_and, Bool.and_true, Bool.and_false]
  intro b1 hb1
  have s1 := Sub.put hb1 ⟨[.int .i64 N.n, .int .i64 N.s, .int .i64 N.t, .slice A N.arcs.length c], true⟩
  have k0 : rd (put G b1 ⟨[.int .i64 N.n, .int .i64 N.s, .int .i64 N.t, .slice A N.arcs.length c], true⟩) (some ⟨b1, 0, none⟩) = some (.int .i64 N.n) := rd_box _ _ _ 0 _ rfl
  have k1 : rd (put G b1 ⟨[.int .i64 N.n, .int .i64 N.s, .int .i64 N.t, .slice A N.arcs.length c], true⟩) (some ⟨b1, 1, none⟩) = some (.int .i64 N.s) := rd_box _ _ _ 1 _ rfl
  have k2 : rd (put G b1 ⟨[.int .i64 N.n, .int .i64 N.s, .int .i64 N.t, .slice A N.arcs.length c], true⟩) (some ⟨b1, 2, none⟩) = some (.int .i64 N.t) := rd_box _ _ _ 2 _ rfl
  have k3 : rd (put G b1 ⟨[.int .i64 N.n, .int .i64 N.s, .int .i64 N.t, .slice A N.arcs.length c], true⟩) (some ⟨b1, 3, none⟩) = some (.slice A N.arcs.length c) := rd_box _ _ _ 3 _ rfl
  revert s1 k0 k1 k2 k3
  generalize put G b1 ⟨[.int .i64 N.n, .int .i64 N.s, .int .i64 N.t, .slice A N.arcs.length c], true⟩ = G1
  intro s1 k0 k1 k2 k3
  simp (maxSteps := 300000) (disch := omega) only [gs, gs2, gs3, ↓reduceIte, Nat.reduceEqDiff, Nat.mul_one, Nat.add_zero, Nat.zero_add, Nat.zero_mul, Int.toNat_natCast, Int.reduceToNat, Nat.reduceMul, Nat.reduceAdd, decide_true, decide_false, Bool.not_true, Bool.not_false, true_and, and_true, List.map_cons, List.map_nil, List.nil_append, List.cons_append, List.append_nil, Option.map_some, Option.bind_some, List.getElem?_cons_zero, List.getElem?_cons_succ, Bool.false_eq_true, not_true_eq_false, not_false_eq_true, List.contains_cons, List.contains_nil, Nat.reduceBEq, Bool.true_or, Bool.false_or, Bool.or_true, List.set_cons_zero, List.set_cons_succ, List.length_cons, List.length_nil, isLd, Bool.true_and, Bool.false_and, Bool.and_true, Bool.and_false, k0, k1, k2, k3]
  refine ⟨N.arcs.length, N.arcs.length, rfl, rfl, Nat.le_refl _, by omega, by omega, fun bF hbF => ?_⟩
  have hz : zc [.int .i64 0] N.arcs.length = (List.replicate N.arcs.length (0 : Int)).map I64 := by rw [zc_one, List.map_replicate]; rfl
  rw [hz]
  have hc0 := cap_zero hn
  have hF0 : put G1 bF ⟨(List.replicate N.arcs.length (0 : Int)).map I64, true⟩ bF = some ⟨(List.replicate N.arcs.length (0 : Int)).map I64, true⟩ := put_same _ _ _
  have hS0 : Sub G1 (put G1 bF ⟨(List.replicate N.arcs.length (0 : Int)).map I64, true⟩) := Sub.put hbF _
  revert hF0 hS0
  generalize put G1 bF ⟨(List.replicate N.arcs.length (0 : Int)).map I64, true⟩ = G2
  intro hF0 hS0
  have hI0 := blk_ints hF0
  have hlr : (List.replicate N.arcs.length (0 : Int)).length = N.arcs.length := by simp
  have f0 := rd_sub hS0 k0
  have f1 := rd_sub hS0 k1
  have f2 := rd_sub hS0 k2
  have f3 := rd_sub hS0 k3
  simp (maxSteps := 300000) (disch := omega) only [gs, gs2, gs3, ↓reduceIte, Nat.reduceEqDiff, Nat.mul_one, Nat.add_zero, Nat.zero_add, Nat.zero_mul, Int.toNat_natCast, Int.reduceToNat, Nat.reduceMul, Nat.reduceAdd, decide_true, decide_false, Bool.not_true, Bool.not_false, true_and, and_true, List.map_cons, List.map_nil, List.nil_append, List.cons_append, List.append_nil, Option.map_some, Option.bind_some, List.getElem?_cons_zero, List.getElem?_cons_succ, Bool.false_eq_true, not_true_eq_false, not_false_eq_true, List.contains_cons, List.contains_nil, Nat.reduceBEq, Bool.true_or, Bool.false_or, Bool.or_true, List.set_cons_zero, List.set_cons_succ, List.length_cons, List.length_nil, isLd, Bool.true_and, Bool.false_and, Bool.and_true, Bool.and_false, f0, f1, f2, f3]
  rw [show Value.slice (some ⟨bF, 0, none⟩) N.arcs.length N.arcs.length = .slice (some ⟨bF, 0, none⟩) (List.replicate N.arcs.length (0 : Int)).length (List.replicate N.arcs.length (0 : Int)).length by rw [hlr]]
  refine impl_marked_ok (N := N) ((h.sub s1).sub hS0) hI0 hn hc0 fun G3 bR Ao co hbR hN => ?_
  have hL := LG.of (N := N) hS0 hbF hF0 hbR hN
  rw [hlr]
  simp (maxSteps := 300000) (disch := omega) only [gs, gs2, gs3, ↓reduceIte, Nat.reduceEqDiff, Nat.mul_one, Nat.add_zero, Nat.zero_add, Nat.zero_mul, Int.toNat_natCast, Int.reduceToNat, Nat.reduceMul, Nat.reduceAdd, decide_true, decide_false, Bool.not_true, Bool.not_false, true_and, and_true, List.map_cons, List.map_nil, List.nil_append, List.cons_append, List.append_nil, Option.map_some, Option.bind_some, List.getElem?_cons_zero, List.getElem?_cons_succ, Bool.false_eq_true, not_true_eq_false, not_false_eq_true, List.contains_cons, List.contains_nil, Nat.reduceBEq, Bool.true_or, Bool.false_or, Bool.or_true, List.set_cons_zero, List.set_cons_succ, List.length_cons, List.length_nil, isLd, Bool.true_and, Bool.false_and, Bool.and_true, Bool.and_false]
  refine gLoop_intro (fun m T G' => ∃ (fl : List Int) (bR : Nat) (Ao : Option Addr) (co : Nat), T 1 = .pointer (some ⟨b1, 0, none⟩) ∧ T 4 = .slice (some ⟨bF, 0, none⟩) N.arcs.length N.arcs.length ∧ T 5 = .slice Ao (reach N.arcs fl N.n.toNat N.s).q.length co ∧ T 6 = .slice (some ⟨bR, 0, none⟩) N.n.toNat N.n.toNat ∧
    m = left N.arcs N.t fl ∧ Cap N.arcs fl ∧ (∀ fl', Great N.arcs N.n.toNat N.s N.t fl fl' → Great N.arcs N.n.toNat N.s N.t (List.replicate N.arcs.length 0) fl') ∧ LG G1 G' N bF bR Ao co fl)
    (left N.arcs N.t (List.replicate N.arcs.length 0)) ⟨_, bR, Ao, co, by simp (maxSteps := 300000) (disch := omega) only [gs, gs2, gs3, ↓reduceIte, Nat.reduceEqDiff, Nat.mul_one, Nat.add_zero, Nat.zero_add, Nat.zero_mul, Int.toNat_natCast, Int.reduceToNat, Nat.reduceMul, Nat.reduceAdd, decide_true, decide_false, Bool.not_true, Bool.not_false, true_and, and_true, List.map_cons, List.map_nil, List.nil_append, List.cons_append, List.append_nil, Option.map_some, Option.bind_some, List.getElem?_cons_zero, List.getElem?_cons_succ, Bool.false_eq_true, not_true_eq_false, not_false_eq_true, List.contains_cons, List.contains_nil, Nat.reduceBEq, Bool.true_or, Bool.false_or, Bool.or_true, List.set_cons_zero, List.set_cons_succ, List.length_cons, List.length_nil, isLd, Bool.true_and, Bool.false_and, Bool.and_true, Bool.and_false], by simp (maxSteps := 300000) (disch := omega) only [gs, gs2, gs3, ↓reduceIte, Nat.reduceEqDiff, Nat.mul_one, Nat.add_zero, Nat.zero_add, Nat.zero_mul, Int.toNat_natCast, Int.reduceToNat, Nat.reduceMul, Nat.reduceAdd, decide_true, decide_false, Bool.not_true, Bool.not_false, true_and, and_true, List.map_cons, List.map_nil, List.nil_append, List.cons_append, List.append_nil, Option.map_some, Option.bind_some, List.getElem?_cons_zero, List.getElem?_cons_succ, Bool.false_eq_true, not_true_eq_false, not_false_eq_true, List.contains_cons, List.contains_nil, Nat.reduceBEq, Bool.true_or, Bool.false_or, Bool.or_true, List.set_cons_zero, List.set_cons_succ, List.length_cons, List.length_nil, isLd, Bool.true_and, Bool.false_and, Bool.and_true, Bool.and_false], by simp (maxSteps := 300000) (disch := omega) only [gs, gs2, gs3, ↓reduceIte, Nat.reduceEqDiff, Nat.mul_one, Nat.add_zero, Nat.zero_add, Nat.zero_mul, Int.toNat_natCast, Int.reduceToNat, Nat.reduceMul, Nat.reduceAdd, decide_true, decide_false, Bool.not_true, Bool.not_false, true_and, and_true, List.map_cons, List.map_nil, List.nil_append, List.cons_append, List.append_nil, Option.map_some, Option.bind_some, List.getElem?_cons_zero, List.getElem?_cons_succ, Bool.false_eq_true, not_true_eq_false, not_false_eq_true, List.contains_cons, List.contains_nil, Nat.reduceBEq, Bool.true_or, Bool.false_or, Bool.or_true, List.set_cons_zero, List.set_cons_succ, List.length_cons, List.length_nil, isLd, Bool.true_and, Bool.false_and, Bool.and_true, Bool.and_false], by simp (maxSteps := 300000) (disch := omega) only [gs, gs2, gs3, ↓reduceIte, Nat.reduceEqDiff, Nat.mul_one, Nat.add_zero, Nat.zero_add, Nat.zero_mul, Int.toNat_natCast, Int.reduceToNat, Nat.reduceMul, Nat.reduceAdd, decide_true, decide_false, Bool.not_true, Bool.not_false, true_and, and_true, List.map_cons, List.map_nil, List.nil_append, List.cons_append, List.append_nil, Option.map_some, Option.bind_some, List.getElem?_cons_zero, List.getElem?_cons_succ, Bool.false_eq_true, not_true_eq_false, not_false_eq_true, List.contains_cons, List.contains_nil, Nat.reduceBEq, Bool.true_or, Bool.false_or, Bool.or_true, List.set_cons_zero, List.set_cons_succ, List.length_cons, List.length_nil, isLd, Bool.true_and, Bool.false_and, Bool.and_true, Bool.and_false], rfl, hc0, fun _ x => x, hL⟩ ?_
  clear hL hN f0 f1 f2 f3 hI0 hF0 hS0 hz
  rintro m T G' ⟨fl, bR, Ao, co, e1, e4, e5, e6, rfl, hc, hgr, hL⟩
  have f0 := rd_sub hL.sub k0
  have f1 := rd_sub hL.sub k1
  have f2 := rd_sub hL.sub k2
  have f3 := rd_sub hL.sub k3
  have hfl := hc.1
  have hrt : rd G' (some ⟨bR, N.t.toNat, none⟩) = some (.int .i64 (fromF N.s (reach N.arcs fl N.n.toNat N.s) N.t)) := by
    simp only [rd, hL.r, Option.bind_some]
    have := fcells_get (n := N.n.toNat) (b := fromF N.s (reach N.arcs fl N.n.toNat N.s)) (rest := []) (v := N.t) (by omega) (by omega)
    rw [List.append_nil] at this; exact this
  have hft : fromF N.s (reach N.arcs fl N.n.toNat N.s) N.t = (reach N.arcs fl N.n.toNat N.s).b N.t := if_neg (fun x => n4 x.symm)
  rw [hft] at hrt
  simp (maxSteps := 300000) (disch := omega) only [gs, gs2, gs3, ↓reduceIte, Nat.reduceEqDiff, Nat.mul_one, Nat.add_zero, Nat.zero_add, Nat.zero_mul, Int.toNat_natCast, Int.reduceToNat, Nat.reduceMul, Nat.reduceAdd, decide_true, decide_false, Bool.not_true, Bool.not_false, true_and, and_true, List.map_cons, List.map_nil, List.nil_append, List.cons_append, List.append_nil, Option.map_some, Option.bind_some, List.getElem?_cons_zero, List.getElem?_cons_succ, Bool.false_eq_true, not_true_eq_false, not_false_eq_true, List.contains_cons, List.contains_nil, Nat.reduceBEq, Bool.true_or, Bool.false_or, Bool.or_true, List.set_cons_zero, List.set_cons_succ, List.length_cons, List.length_nil, isLd, Bool.true_and, Bool.false_and, Bool.and_true, Bool.and_false, e1, e4, e5, e6, f2, hrt]
  by_cases hb : 0 ≤ (reach N.arcs fl N.n.toNat N.s).b N.t
  · simp (maxSteps := 300000) (disch := omega) only [gs, gs2, gs3, ↓reduceIte, Nat.reduceEqDiff, Nat.mul_one, Nat.add_zero, Nat.zero_add, Nat.zero_mul, Int.toNat_natCast, Int.reduceToNat, Nat.reduceMul, Nat.reduceAdd, decide_true, decide_false, Bool.not_true, Bool.not_false, true_and, and_true, List.map_cons, List.map_nil, List.nil_append, List.cons_append, List.append_nil, Option.map_some, Option.bind_some, List.getElem?_cons_zero, List.getElem?_cons_succ, Bool.false_eq_true, not_true_eq_false, not_false_eq_true, List.contains_cons, List.contains_nil, Nat.reduceBEq, Bool.true_or, Bool.false_or, Bool.or_true, List.set_cons_zero, List.set_cons_succ, List.length_cons, List.length_nil, isLd, Bool.true_and, Bool.false_and, Bool.and_true, Bool.and_false, hb, e1, e4, e5, e6, f0, f1, f2, f3]
    have hne := hL.neR
    have hH := hL.sub.in_del hL.nF
    rw [show Value.slice (some ⟨bF, 0, none⟩) N.arcs.length N.arcs.length = .slice (some ⟨bF, 0, none⟩) fl.length fl.length by rw [hfl]]
    refine impl_send_ok (N := N) (C := some ⟨bR, 0, none⟩) (Sub.del G' bF) (del_none _ _) hL.f ((h.sub s1).sub hH) (fun v h0 h1 => ?_) (by simp [sn]) hn hc hb fun G3 hS3 hF3 => ?_
    · rw [pa_mk, Nat.zero_add]
      simp only [rd, del_ne _ hne, hL.r, Option.bind_some]
      have := fcells_get (n := N.n.toNat) (b := fromF N.s (reach N.arcs fl N.n.toNat N.s)) (rest := []) (v := v) (by omega) (by omega)
      rw [List.append_nil] at this; exact this
    obtain ⟨hc', hlt⟩ := left_step hn hc hb
    have hlen' := hc'.1
    generalize hfl2 : stepF N.arcs N.n.toNat N.s N.t fl = fl2 at *
    have hS3' := hH.trans hS3
    have f0 := rd_sub hS3' k0
    have f1 := rd_sub hS3' k1
    have f2 := rd_sub hS3' k2
    have f3 := rd_sub hS3' k3
    simp (maxSteps := 300000) (disch := omega) only [gs, gs2, gs3, ↓reduceIte, Nat.reduceEqDiff, Nat.mul_one, Nat.add_zero, Nat.zero_add, Nat.zero_mul, Int.toNat_natCast, Int.reduceToNat, Nat.reduceMul, Nat.reduceAdd, decide_true, decide_false, Bool.not_true, Bool.not_false, true_and, and_true, List.map_cons, List.map_nil, List.nil_append, List.cons_append, List.append_nil, Option.map_some, Option.bind_some, List.getElem?_cons_zero, List.getElem?_cons_succ, Bool.false_eq_true, not_true_eq_false, not_false_eq_true, List.contains_cons, List.contains_nil, Nat.reduceBEq, Bool.true_or, Bool.false_or, Bool.or_true, List.set_cons_zero, List.set_cons_succ, List.length_cons, List.length_nil, isLd, Bool.true_and, Bool.false_and, Bool.and_true, Bool.and_false, e1, e4, e5, e6, f0, f1, f2, f3]
    rw [show Value.slice (some ⟨bF, 0, none⟩) N.arcs.length N.arcs.length = .slice (some ⟨bF, 0, none⟩) fl2.length fl2.length by rw [hlen']]
    refine impl_marked_ok (N := N) ((h.sub s1).sub hS3') (blk_ints hF3) hn hc' fun G4 bR2 Ao2 co2 hbR2 hN2 => ?_
    have hL2 := LG.of (N := N) hS3' hL.nF hF3 hbR2 hN2
    simp (maxSteps := 300000) (disch := omega) only [gs, gs2, gs3, ↓reduceIte, Nat.reduceEqDiff, Nat.mul_one, Nat.add_zero, Nat.zero_add, Nat.zero_mul, Int.toNat_natCast, Int.reduceToNat, Nat.reduceMul, Nat.reduceAdd, decide_true, decide_false, Bool.not_true, Bool.not_false, true_and, and_true, List.map_cons, List.map_nil, List.nil_append, List.cons_append, List.append_nil, Option.map_some, Option.bind_some, List.getElem?_cons_zero, List.getElem?_cons_succ, Bool.false_eq_true, not_true_eq_false, not_false_eq_true, List.contains_cons, List.contains_nil, Nat.reduceBEq, Bool.true_or, Bool.false_or, Bool.or_true, List.set_cons_zero, List.set_cons_succ, List.length_cons, List.length_nil, isLd, Bool.true_and, Bool.false_and, Bool.and_true, Bool.and_false, e1, e4, e5, e6]
    exact ⟨_, hlt, G4, Sub.refl _, fl2, bR2, Ao2, co2, by rw [hfl], rfl, rfl, rfl, hc', fun fl' hg => hgr fl' (.step hb (by rw [hfl2]; exact hg)), hL2⟩
  · simp (maxSteps := 300000) (disch := omega) only [gs, gs2, gs3, ↓reduceIte, Nat.reduceEqDiff, Nat.mul_one, Nat.add_zero, Nat.zero_add, Nat.zero_mul, Int.toNat_natCast, Int.reduceToNat, Nat.reduceMul, Nat.reduceAdd, decide_true, decide_false, Bool.not_true, Bool.not_false, true_and, and_true, List.map_cons, List.map_nil, List.nil_append, List.cons_append, List.append_nil, Option.map_some, Option.bind_some, List.getElem?_cons_zero, List.getElem?_cons_succ, Bool.false_eq_true, not_true_eq_false, not_false_eq_true, List.contains_cons, List.contains_nil, Nat.reduceBEq, Bool.true_or, Bool.false_or, Bool.or_true, List.set_cons_zero, List.set_cons_succ, List.length_cons, List.length_nil, isLd, Bool.true_and, Bool.false_and, Bool.and_true, Bool.and_false, hb, e1, e4, e5, e6]
    have hG := hgr fl (.done (by omega))
    have hV := great_eq hG
    subst hV
    have hI := BI.reach (es := N.arcs) (fl := greatV N) (n := N.n.toNat) (s := N.s) (by omega)
    have hql := hI.len
    have hq0 := hI.hd.2
    rcases hL.own with ⟨_, _, h0, _⟩ | ⟨bO, r, rfl, hbO, hlO, hcO, hnO⟩
    · omega
    refine slices_Sort_ok (Sub.del G' bO) (del_none _ _) hbO (by omega) hI.inj fun G5 ys hS5 hO5 hsm hri => ?_
    have hys := side_sorted hn hsm hri
    subst hys
    have hne : bF ≠ bO := fun x => hL.ne _ rfl x.symm
    simp (maxSteps := 300000) (disch := omega) only [gs, gs2, gs3, ↓reduceIte, Nat.reduceEqDiff, Nat.mul_one, Nat.add_zero, Nat.zero_add, Nat.zero_mul, Int.toNat_natCast, Int.reduceToNat, Nat.reduceMul, Nat.reduceAdd, decide_true, decide_false, Bool.not_true, Bool.not_false, true_and, and_true, List.map_cons, List.map_nil, List.nil_append, List.cons_append, List.append_nil, Option.map_some, Option.bind_some, List.getElem?_cons_zero, List.getElem?_cons_succ, Bool.false_eq_true, not_true_eq_false, not_false_eq_true, List.contains_cons, List.contains_nil, Nat.reduceBEq, Bool.true_or, Bool.false_or, Bool.or_true, List.set_cons_zero, List.set_cons_succ, List.length_cons, List.length_nil, isLd, Bool.true_and, Bool.false_and, Bool.and_true, Bool.and_false, e1, e4, e5, e6]
    have hsl := hsm.len
    have hsub : Sub G G5 := (s1.trans (hL.sub.in_del (hL.off _ rfl))).trans hS5
    have := hk G5 bF bO co r (s1.none hL.nF) (s1.none (hL.off _ rfl)) hsub (hS5 _ _ (by rw [del_ne _ hne]; exact hL.f)) hO5 (by rw [List.length_append, List.length_map] at hcO; omega) hne
    rw [hsl] at this
    exact ⟨G5, Sub.refl _, this⟩
theorem rm_bd {N : Net} (hn : NetOk N) {fl : List Int} (hc : Cap N.arcs fl) (a b : Int) : 0 ≤ rm N.arcs fl a b ∧ rm N.arcs fl a b ≤ 2000000 := by
  have p1 : 0 ≤ arcI N.arcs a b → 0 ≤ (N.arcs.getD (arcI N.arcs a b).toNat z3).2.2 - fl.getD (arcI N.arcs a b).toNat 0 ∧ (N.arcs.getD (arcI N.arcs a b).toNat z3).2.2 - fl.getD (arcI N.arcs a b).toNat 0 ≤ 1000000 := fun h => by have := cap_bd hn hc (arcI_lt _ _ _ h).1; omega
  have p2 : 0 ≤ arcI N.arcs b a → 0 ≤ fl.getD (arcI N.arcs b a).toNat 0 ∧ fl.getD (arcI N.arcs b a).toNat 0 ≤ 1000000 := fun h => by have := cap_bd hn hc (arcI_lt _ _ _ h).1; omega
  unfold rm
  by_cases q1 : 0 ≤ arcI N.arcs a b
  · have := p1 q1
    by_cases q2 : 0 ≤ arcI N.arcs b a
    · have := p2 q2
      rw [if_pos q1, if_pos q2]; omega
    · rw [if_pos q1, if_neg q2]; omega
  · by_cases q2 : 0 ≤ arcI N.arcs b a
    · have := p2 q2
      rw [if_neg q1, if_pos q2]; omega
    · rw [if_neg q1, if_neg q2]; omega
/-- a greater start changes nothing. -/
theorem minP_start {N : Net} (hn : NetOk N) {fl : List Int} (hc : Cap N.arcs fl) {b : Int → Int} {f : Nat} {v : Int} (hv : v ≠ N.s) {x : Int} (hx : 2000000 ≤ x) : minP N.arcs fl b N.s (f + 1) v x = minP N.arcs fl b N.s (f + 1) v 2000000 := by
  have := rm_bd hn hc (b v) v
  rw [minP, minP, if_neg hv, if_neg hv]
  congr 1
  split <;> split <;> omega
theorem rd_away {G G' : GH} {A : Option Addr} {k b : Nat} {v : Value} (h : rd G (pa A k) = some v) (ne : ∀ a, A = some a → a.block ≠ b) (he : ∀ x, x ≠ b → G' x = G x) : rd G' (pa A k) = some v := by
  cases hA : A with
  | none => rw [hA] at h; cases h
  | some a =>
    have := ne a hA
    subst hA
    obtain ⟨ab, ao, sp⟩ := a
    cases sp with
    | none =>
      rw [pa_mk] at h ⊢
      simp only [rd] at h ⊢
      rw [he _ this]; exact h
    | some x =>
      by_cases hk : k = 0
      · exact absurd h (by simp [pa, rd, Addr.add, hk])
      · have e : pa (some ⟨ab, ao, some x⟩) k = some ⟨ab, ao + k, none⟩ := by simp [pa, Addr.add, hk]
        rw [e] at h ⊢
        simp only [rd] at h ⊢
        rw [he _ this]; exact h
theorem spec_l19Greatest_ok {G : GH} {q : Option Addr} {N : Net} {A : Option Addr} {c : Nat} (h : NetP G q N A c) (hn : NetOk N) {K : Value → GH → Prop}
    (hk : ∀ G' bF, G bF = none → Sub G G' → G' bF = some ⟨(greatV N).map I64, true⟩ → K (.slice (some ⟨bF, 0, none⟩) N.arcs.length N.arcs.length) G') : GC Try.prog 186 [.pointer q] G K := by
  refine c_spec_l19Greatest_i (by simp) ?_
  have n1 := hn.1
  have n2 := hn.2.1
  have n3 := hn.2.2.1
  have n4 := hn.2.2.2.1
  have n5 := hn.2.2.2.2.2
  have hq := rd_some h.f0
  have k0 := h.f0
  have k1 := h.f1
  have k2 := h.f2
  have k3 := h.f3
  simp (maxSteps := 300000) (disch := omega) only [gs, gs2, gs3, ↓reduceIte, Nat.reduceEqDiff, Nat.mul_one, Nat.add_zero, Nat.zero_add, Nat.zero_mul, Int.toNat_natCast, Int.reduceToNat, Nat.reduceMul, Nat.reduceAdd, decide_true, decide_false, Bool.not_true, Bool.not_false, true_and, and_true, List.map_cons, List.map_nil, List.nil_append, List.cons_append, List.append_nil, Option.map_some, Option.bind_some, List.getElem?_cons_zero, List.getElem?_cons_succ, Bool.false_eq_true, not_true_eq_false, not_false_eq_true, List.contains_cons, List.contains_nil, Nat.reduceBEq, Bool.true_or, Bool.false_or, Bool.or_true, List.set_cons_zero, List.set_cons_succ, List.length_cons, List.length_nil, isLd, Bool.true_and, Bool.false_and, Bool.and_true, Bool.and_false, k0, k1, k2, k3]
  refine ⟨N.arcs.length, N.arcs.length, rfl, rfl, Nat.le_refl _, by omega, by omega, fun bF hbF => ?_⟩
  have hz : zc [.int .i64 0] N.arcs.length = (List.replicate N.arcs.length (0 : Int)).map I64 := by rw [zc_one, List.map_replicate]; rfl
  rw [hz]
  have hc0 := cap_zero hn
  have hF0 : put G bF ⟨(List.replicate N.arcs.length (0 : Int)).map I64, true⟩ bF = some ⟨(List.replicate N.arcs.length (0 : Int)).map I64, true⟩ := put_same _ _ _
  have hS0 : Sub G (put G bF ⟨(List.replicate N.arcs.length (0 : Int)).map I64, true⟩) := Sub.put hbF _
  simp (maxSteps := 300000) (disch := omega) only [gs, gs2, gs3, ↓reduceIte, Nat.reduceEqDiff, Nat.mul_one, Nat.add_zero, Nat.zero_add, Nat.zero_mul, Int.toNat_natCast, Int.reduceToNat, Nat.reduceMul, Nat.reduceAdd, decide_true, decide_false, Bool.not_true, Bool.not_false, true_and, and_true, List.map_cons, List.map_nil, List.nil_append, List.cons_append, List.append_nil, Option.map_some, Option.bind_some, List.getElem?_cons_zero, List.getElem?_cons_succ, Bool.false_eq_true, not_true_eq_false, not_false_eq_true, List.contains_cons, List.contains_nil, Nat.reduceBEq, Bool.true_or, Bool.false_or, Bool.or_true, List.set_cons_zero, List.set_cons_succ, List.length_cons, List.length_nil, isLd, Bool.true_and, Bool.false_and, Bool.and_true, Bool.and_false]
  refine gLoop_intro (fun m T G' => ∃ (fl : List Int), T 0 = .pointer q ∧ T 3 = .slice (some ⟨bF, 0, none⟩) N.arcs.length N.arcs.length ∧
    m = left N.arcs N.t fl ∧ Cap N.arcs fl ∧ (∀ fl', Great N.arcs N.n.toNat N.s N.t fl fl' → Great N.arcs N.n.toNat N.s N.t (List.replicate N.arcs.length 0) fl') ∧ Sub G G' ∧ G' bF = some ⟨fl.map I64, true⟩)
    (left N.arcs N.t (List.replicate N.arcs.length 0)) ⟨_, by simp (maxSteps := 300000) (disch := omega) only [gs, gs2, gs3, ↓reduceIte, Nat.reduceEqDiff, Nat.mul_one, Nat.add_zero, Nat.zero_add, Nat.zero_mul, Int.toNat_natCast, Int.reduceToNat, Nat.reduceMul, Nat.reduceAdd, decide_true, decide_false, Bool.not_true, Bool.not_false, true_and, and_true, List.map_cons, List.map_nil, List.nil_append, List.cons_append, List.append_nil, Option.map_some, Option.bind_some, List.getElem?_cons_zero, List.getElem?_cons_succ, Bool.false_eq_true, not_true_eq_false, not_false_eq_true, List.contains_cons, List.contains_nil, Nat.reduceBEq, Bool.true_or, Bool.false_or, Bool.or_true, List.set_cons_zero, List.set_cons_succ, List.length_cons, List.length_nil, isLd, Bool.true_and, Bool.false_and, Bool.and_true, Bool.and_false], by simp (maxSteps := 300000) (disch := omega) only [gs, gs2, gs3, ↓reduceIte, Nat.reduceEqDiff, Nat.mul_one, Nat.add_zero, Nat.zero_add, Nat.zero_mul, Int.toNat_natCast, Int.reduceToNat, Nat.reduceMul, Nat.reduceAdd, decide_true, decide_false, Bool.not_true, Bool.not_false, true_and, and_true, List.map_cons, List.map_nil, List.nil_append, List.cons_append, List.append_nil, Option.map_some, Option.bind_some, List.getElem?_cons_zero, List.getElem?_cons_succ, Bool.false_eq_true, not_true_eq_false, not_false_eq_true, List.contains_cons, List.contains_nil, Nat.reduceBEq, Bool.true_or, Bool.false_or, Bool.or_true, List.set_cons_zero, List.set_cons_succ, List.length_cons, List.length_nil, isLd, Bool.true_and, Bool.false_and, Bool.and_true, Bool.and_false], rfl, hc0, fun _ x => x, hS0, hF0⟩ ?_
  clear hF0 hS0 hz
  rintro m T G' ⟨fl, e0, e3, rfl, hc, hgr, hS, hF⟩
  have hfl := hc.1
  simp (maxSteps := 300000) (disch := omega) only [gs, gs2, gs3, ↓reduceIte, Nat.reduceEqDiff, Nat.mul_one, Nat.add_zero, Nat.zero_add, Nat.zero_mul, Int.toNat_natCast, Int.reduceToNat, Nat.reduceMul, Nat.reduceAdd, decide_true, decide_false, Bool.not_true, Bool.not_false, true_and, and_true, List.map_cons, List.map_nil, List.nil_append, List.cons_append, List.append_nil, Option.map_some, Option.bind_some, List.getElem?_cons_zero, List.getElem?_cons_succ, Bool.false_eq_true, not_true_eq_false, not_false_eq_true, List.contains_cons, List.contains_nil, Nat.reduceBEq, Bool.true_or, Bool.false_or, Bool.or_true, List.set_cons_zero, List.set_cons_succ, List.length_cons, List.length_nil, isLd, Bool.true_and, Bool.false_and, Bool.and_true, Bool.and_false, e0, e3]
  rw [show Value.slice (some ⟨bF, 0, none⟩) N.arcs.length N.arcs.length = .slice (some ⟨bF, 0, none⟩) fl.length fl.length by rw [hfl]]
  rw [show Value.slice (some ⟨bF, 0, none⟩) N.arcs.length N.arcs.length = .slice (some ⟨bF, 0, none⟩) fl.length fl.length by rw [hfl]] at e3
  refine spec_l19Reach_ok (h.sub hS) (blk_ints hF) hn hc fun G2 Aw cw hN => ?_
  have hS2 := hS.trans hN.sub
  have f0 := rd_sub hS2 k0
  have f1 := rd_sub hS2 k1
  have f2 := rd_sub hS2 k2
  have f3 := rd_sub hS2 k3
  have hsw := hN.sn (by omega)
  have hrt := hN.rdF (v := N.t) (by omega) (by omega)
  simp (maxSteps := 300000) (disch := omega) only [gs, gs2, gs3, ↓reduceIte, Nat.reduceEqDiff, Nat.mul_one, Nat.add_zero, Nat.zero_add, Nat.zero_mul, Int.toNat_natCast, Int.reduceToNat, Nat.reduceMul, Nat.reduceAdd, decide_true, decide_false, Bool.not_true, Bool.not_false, true_and, and_true, List.map_cons, List.map_nil, List.nil_append, List.cons_append, List.append_nil, Option.map_some, Option.bind_some, List.getElem?_cons_zero, List.getElem?_cons_succ, Bool.false_eq_true, not_true_eq_false, not_false_eq_true, List.contains_cons, List.contains_nil, Nat.reduceBEq, Bool.true_or, Bool.false_or, Bool.or_true, List.set_cons_zero, List.set_cons_succ, List.length_cons, List.length_nil, isLd, Bool.true_and, Bool.false_and, Bool.and_true, Bool.and_false, e0, e3, f0, f1, f2, f3, hrt]
  by_cases hb : (reach N.arcs fl N.n.toNat N.s).b N.t < 0
  · simp (maxSteps := 300000) (disch := omega) only [gs, gs2, gs3, ↓reduceIte, Nat.reduceEqDiff, Nat.mul_one, Nat.add_zero, Nat.zero_add, Nat.zero_mul, Int.toNat_natCast, Int.reduceToNat, Nat.reduceMul, Nat.reduceAdd, decide_true, decide_false, Bool.not_true, Bool.not_false, true_and, and_true, List.map_cons, List.map_nil, List.nil_append, List.cons_append, List.append_nil, Option.map_some, Option.bind_some, List.getElem?_cons_zero, List.getElem?_cons_succ, Bool.false_eq_true, not_true_eq_false, not_false_eq_true, List.contains_cons, List.contains_nil, Nat.reduceBEq, Bool.true_or, Bool.false_or, Bool.or_true, List.set_cons_zero, List.set_cons_succ, List.length_cons, List.length_nil, isLd, Bool.true_and, Bool.false_and, Bool.and_true, Bool.and_false, hb, e0, e3]
    have hV := great_eq (hgr fl (.done hb))
    subst hV
    rw [hfl]
    exact hk _ bF hbF hS2 (hN.sub _ _ hF)
  · simp (maxSteps := 300000) (disch := omega) only [gs, gs2, gs3, ↓reduceIte, Nat.reduceEqDiff, Nat.mul_one, Nat.add_zero, Nat.zero_add, Nat.zero_mul, Int.toNat_natCast, Int.reduceToNat, Nat.reduceMul, Nat.reduceAdd, decide_true, decide_false, Bool.not_true, Bool.not_false, true_and, and_true, List.map_cons, List.map_nil, List.nil_append, List.cons_append, List.append_nil, Option.map_some, Option.bind_some, List.getElem?_cons_zero, List.getElem?_cons_succ, Bool.false_eq_true, not_true_eq_false, not_false_eq_true, List.contains_cons, List.contains_nil, Nat.reduceBEq, Bool.true_or, Bool.false_or, Bool.or_true, List.set_cons_zero, List.set_cons_succ, List.length_cons, List.length_nil, isLd, Bool.true_and, Bool.false_and, Bool.and_true, Bool.and_false, hb, e0, e3, f0, f1, f2, f3]
    obtain ⟨j0, hj0, ej0, hjn, ⟨hpos, hle⟩, hPI⟩ := way_start hn hc (by omega)
    have hI := BI.reach (es := N.arcs) (fl := fl) (n := N.n.toNat) (s := N.s) (by omega)
    have hstart : minP N.arcs fl (reach N.arcs fl N.n.toNat N.s).b N.s N.n.toNat N.t 1000000000000 = minP N.arcs fl (reach N.arcs fl N.n.toNat N.s).b N.s N.n.toNat N.t 2000000 := by
      obtain ⟨f, hf⟩ : ∃ f, N.n.toNat = f + 1 := ⟨N.n.toNat - 1, by omega⟩
      rw [hf]; exact minP_start hn hc (fun x => n4 x.symm) (by omega)
    obtain ⟨hc', hlt⟩ := left_step hn hc (by omega)
    have hstep : stepF N.arcs N.n.toNat N.s N.t fl = pushP N.arcs (reach N.arcs fl N.n.toNat N.s).b N.s (minP N.arcs fl (reach N.arcs fl N.n.toNat N.s).b N.s N.n.toNat N.t 2000000) N.n.toNat N.t fl := rfl
    have hgr' : ∀ fl', Great N.arcs N.n.toNat N.s N.t (stepF N.arcs N.n.toNat N.s N.t fl) fl' → Great N.arcs N.n.toNat N.s N.t (List.replicate N.arcs.length 0) fl' := fun fl' hg => hgr fl' (.step (by omega) hg)
    generalize hfl2 : stepF N.arcs N.n.toNat N.s N.t fl = fl2 at *
    have hRd : ∀ v : Int, 0 ≤ v → v < N.n → rd G2 (pa Aw v.toNat) = some (.int .i64 ((reach N.arcs fl N.n.toNat N.s).b v)) := fun v h0 h1 => hN.rdF h0 (by omega)
    have hF2 := hN.sub _ _ hF
    have nbW : ∀ a, Aw = some a → a.block ≠ bF := fun a ha x => by have := hN.off a ha; rw [x, hF] at this; cases this
    generalize hst : reach N.arcs fl N.n.toNat N.s = st at *
    generalize hamt : minP N.arcs fl st.b N.s N.n.toNat N.t 2000000 = amt at *
    refine gLoop_intro (fun m T G3 => ∃ (j f : Nat) (acc : Int), T 0 = .pointer q ∧ T 3 = .slice (some ⟨bF, 0, none⟩) fl.length fl.length ∧ T 4 = .slice Aw N.n.toNat cw ∧ T 5 = .int .i64 acc ∧ T 6 = .int .i64 (st.q.getD j 0) ∧ m = j ∧ j < st.q.length ∧ j ≤ f ∧ minP N.arcs fl st.b N.s f (st.q.getD j 0) acc = amt ∧ G3 = G2)
      j0 ⟨j0, N.n.toNat, 1000000000000, by simp (maxSteps := 300000) (disch := omega) only [gs, gs2, gs3, ↓reduceIte, Nat.reduceEqDiff, Nat.mul_one, Nat.add_zero, Nat.zero_add, Nat.zero_mul, Int.toNat_natCast, Int.reduceToNat, Nat.reduceMul, Nat.reduceAdd, decide_true, decide_false, Bool.not_true, Bool.not_false, true_and, and_true, List.map_cons, List.map_nil, List.nil_append, List.cons_append, List.append_nil, Option.map_some, Option.bind_some, List.getElem?_cons_zero, List.getElem?_cons_succ, Bool.false_eq_true, not_true_eq_false, not_false_eq_true, List.contains_cons, List.contains_nil, Nat.reduceBEq, Bool.true_or, Bool.false_or, Bool.or_true, List.set_cons_zero, List.set_cons_succ, List.length_cons, List.length_nil, isLd, Bool.true_and, Bool.false_and, Bool.and_true, Bool.and_false, e0], by simp (maxSteps := 300000) (disch := omega) only [gs, gs2, gs3, ↓reduceIte, Nat.reduceEqDiff, Nat.mul_one, Nat.add_zero, Nat.zero_add, Nat.zero_mul, Int.toNat_natCast, Int.reduceToNat, Nat.reduceMul, Nat.reduceAdd, decide_true, decide_false, Bool.not_true, Bool.not_false, true_and, and_true, List.map_cons, List.map_nil, List.nil_append, List.cons_append, List.append_nil, Option.map_some, Option.bind_some, List.getElem?_cons_zero, List.getElem?_cons_succ, Bool.false_eq_true, not_true_eq_false, not_false_eq_true, List.contains_cons, List.contains_nil, Nat.reduceBEq, Bool.true_or, Bool.false_or, Bool.or_true, List.set_cons_zero, List.set_cons_succ, List.length_cons, List.length_nil, isLd, Bool.true_and, Bool.false_and, Bool.and_true, Bool.and_false, e3], by simp (maxSteps := 300000) (disch := omega) only [gs, gs2, gs3, ↓reduceIte, Nat.reduceEqDiff, Nat.mul_one, Nat.add_zero, Nat.zero_add, Nat.zero_mul, Int.toNat_natCast, Int.reduceToNat, Nat.reduceMul, Nat.reduceAdd, decide_true, decide_false, Bool.not_true, Bool.not_false, true_and, and_true, List.map_cons, List.map_nil, List.nil_append, List.cons_append, List.append_nil, Option.map_some, Option.bind_some, List.getElem?_cons_zero, List.getElem?_cons_succ, Bool.false_eq_true, not_true_eq_false, not_false_eq_true, List.contains_cons, List.contains_nil, Nat.reduceBEq, Bool.true_or, Bool.false_or, Bool.or_true, List.set_cons_zero, List.set_cons_succ, List.length_cons, List.length_nil, isLd, Bool.true_and, Bool.false_and, Bool.and_true, Bool.and_false], by simp (maxSteps := 300000) (disch := omega) only [gs, gs2, gs3, ↓reduceIte, Nat.reduceEqDiff, Nat.mul_one, Nat.add_zero, Nat.zero_add, Nat.zero_mul, Int.toNat_natCast, Int.reduceToNat, Nat.reduceMul, Nat.reduceAdd, decide_true, decide_false, Bool.not_true, Bool.not_false, true_and, and_true, List.map_cons, List.map_nil, List.nil_append, List.cons_append, List.append_nil, Option.map_some, Option.bind_some, List.getElem?_cons_zero, List.getElem?_cons_succ, Bool.false_eq_true, not_true_eq_false, not_false_eq_true, List.contains_cons, List.contains_nil, Nat.reduceBEq, Bool.true_or, Bool.false_or, Bool.or_true, List.set_cons_zero, List.set_cons_succ, List.length_cons, List.length_nil, isLd, Bool.true_and, Bool.false_and, Bool.and_true, Bool.and_false], by simp (maxSteps := 300000) (disch := omega) only [gs, gs2, gs3, ↓reduceIte, Nat.reduceEqDiff, Nat.mul_one, Nat.add_zero, Nat.zero_add, Nat.zero_mul, Int.toNat_natCast, Int.reduceToNat, Nat.reduceMul, Nat.reduceAdd, decide_true, decide_false, Bool.not_true, Bool.not_false, true_and, and_true, List.map_cons, List.map_nil, List.nil_append, List.cons_append, List.append_nil, Option.map_some, Option.bind_some, List.getElem?_cons_zero, List.getElem?_cons_succ, Bool.false_eq_true, not_true_eq_false, not_false_eq_true, List.contains_cons, List.contains_nil, Nat.reduceBEq, Bool.true_or, Bool.false_or, Bool.or_true, List.set_cons_zero, List.set_cons_succ, List.length_cons, List.length_nil, isLd, Bool.true_and, Bool.false_and, Bool.and_true, Bool.and_false] <;> rw [ej0], rfl, hj0, hjn, by rw [ej0, hstart], rfl⟩ ?_
    clear e0 e3
    rintro m T G3 ⟨j, f, acc, e0, e3, e4, e5, e6, rfl, hj, hjf, hmin, rfl⟩
    have hvr := hI.rng (st.q.getD m 0) (mem_getD'.2 ⟨m, hj, rfl⟩)
    simp (maxSteps := 300000) (disch := omega) only [gs, gs2, gs3, ↓reduceIte, Nat.reduceEqDiff, Nat.mul_one, Nat.add_zero, Nat.zero_add, Nat.zero_mul, Int.toNat_natCast, Int.reduceToNat, Nat.reduceMul, Nat.reduceAdd, decide_true, decide_false, Bool.not_true, Bool.not_false, true_and, and_true, List.map_cons, List.map_nil, List.nil_append, List.cons_append, List.append_nil, Option.map_some, Option.bind_some, List.getElem?_cons_zero, List.getElem?_cons_succ, Bool.false_eq_true, not_true_eq_false, not_false_eq_true, List.contains_cons, List.contains_nil, Nat.reduceBEq, Bool.true_or, Bool.false_or, Bool.or_true, List.set_cons_zero, List.set_cons_succ, List.length_cons, List.length_nil, isLd, Bool.true_and, Bool.false_and, Bool.and_true, Bool.and_false, e0, e3, e4, e5, e6, f1]
    by_cases hv : st.q.getD m 0 = N.s
    · simp (maxSteps := 300000) (disch := omega) only [gs, gs2, gs3, ↓reduceIte, Nat.reduceEqDiff, Nat.mul_one, Nat.add_zero, Nat.zero_add, Nat.zero_mul, Int.toNat_natCast, Int.reduceToNat, Nat.reduceMul, Nat.reduceAdd, decide_true, decide_false, Bool.not_true, Bool.not_false, true_and, and_true, List.map_cons, List.map_nil, List.nil_append, List.cons_append, List.append_nil, Option.map_some, Option.bind_some, List.getElem?_cons_zero, List.getElem?_cons_succ, Bool.false_eq_true, not_true_eq_false, not_false_eq_true, List.contains_cons, List.contains_nil, Nat.reduceBEq, Bool.true_or, Bool.false_or, Bool.or_true, List.set_cons_zero, List.set_cons_succ, List.length_cons, List.length_nil, isLd, Bool.true_and, Bool.false_and, Bool.and_true, Bool.and_false, eq_true hv, e0, e3, e4, e5, e6, f1, f2]
      have hacc : acc = amt := by rw [hv, minP_end] at hmin; exact hmin
      subst hacc
      -- the pushes
      refine gLoop_intro (fun m T G4 => ∃ (j f : Nat) (fl' : List Int), T 0 = .pointer q ∧ T 3 = .slice (some ⟨bF, 0, none⟩) N.arcs.length N.arcs.length ∧ T 4 = .slice Aw N.n.toNat cw ∧ T 5 = .int .i64 acc ∧ T 7 = .int .i64 (st.q.getD j 0) ∧ m = j ∧ PI N.arcs fl N.s st acc f j fl' ∧ pushP N.arcs st.b N.s acc f (st.q.getD j 0) fl' = fl2 ∧ Sub (del G3 bF) G4 ∧ G4 bF = some ⟨fl'.map I64, true⟩)
        j0 ⟨j0, N.n.toNat, fl, by simp (maxSteps := 300000) (disch := omega) only [gs, gs2, gs3, ↓reduceIte, Nat.reduceEqDiff, Nat.mul_one, Nat.add_zero, Nat.zero_add, Nat.zero_mul, Int.toNat_natCast, Int.reduceToNat, Nat.reduceMul, Nat.reduceAdd, decide_true, decide_false, Bool.not_true, Bool.not_false, true_and, and_true, List.map_cons, List.map_nil, List.nil_append, List.cons_append, List.append_nil, Option.map_some, Option.bind_some, List.getElem?_cons_zero, List.getElem?_cons_succ, Bool.false_eq_true, not_true_eq_false, not_false_eq_true, List.contains_cons, List.contains_nil, Nat.reduceBEq, Bool.true_or, Bool.false_or, Bool.or_true, List.set_cons_zero, List.set_cons_succ, List.length_cons, List.length_nil, isLd, Bool.true_and, Bool.false_and, Bool.and_true, Bool.and_false, e0], by simp (maxSteps := 300000) (disch := omega) only [gs, gs2, gs3, ↓reduceIte, Nat.reduceEqDiff, Nat.mul_one, Nat.add_zero, Nat.zero_add, Nat.zero_mul, Int.toNat_natCast, Int.reduceToNat, Nat.reduceMul, Nat.reduceAdd, decide_true, decide_false, Bool.not_true, Bool.not_false, true_and, and_true, List.map_cons, List.map_nil, List.nil_append, List.cons_append, List.append_nil, Option.map_some, Option.bind_some, List.getElem?_cons_zero, List.getElem?_cons_succ, Bool.false_eq_true, not_true_eq_false, not_false_eq_true, List.contains_cons, List.contains_nil, Nat.reduceBEq, Bool.true_or, Bool.false_or, Bool.or_true, List.set_cons_zero, List.set_cons_succ, List.length_cons, List.length_nil, isLd, Bool.true_and, Bool.false_and, Bool.and_true, Bool.and_false, e3] <;> rw [hfl], by simp (maxSteps := 300000) (disch := omega) only [gs, gs2, gs3, ↓reduceIte, Nat.reduceEqDiff, Nat.mul_one, Nat.add_zero, Nat.zero_add, Nat.zero_mul, Int.toNat_natCast, Int.reduceToNat, Nat.reduceMul, Nat.reduceAdd, decide_true, decide_false, Bool.not_true, Bool.not_false, true_and, and_true, List.map_cons, List.map_nil, List.nil_append, List.cons_append, List.append_nil, Option.map_some, Option.bind_some, List.getElem?_cons_zero, List.getElem?_cons_succ, Bool.false_eq_true, not_true_eq_false, not_false_eq_true, List.contains_cons, List.contains_nil, Nat.reduceBEq, Bool.true_or, Bool.false_or, Bool.or_true, List.set_cons_zero, List.set_cons_succ, List.length_cons, List.length_nil, isLd, Bool.true_and, Bool.false_and, Bool.and_true, Bool.and_false, e4], by simp (maxSteps := 300000) (disch := omega) only [gs, gs2, gs3, ↓reduceIte, Nat.reduceEqDiff, Nat.mul_one, Nat.add_zero, Nat.zero_add, Nat.zero_mul, Int.toNat_natCast, Int.reduceToNat, Nat.reduceMul, Nat.reduceAdd, decide_true, decide_false, Bool.not_true, Bool.not_false, true_and, and_true, List.map_cons, List.map_nil, List.nil_append, List.cons_append, List.append_nil, Option.map_some, Option.bind_some, List.getElem?_cons_zero, List.getElem?_cons_succ, Bool.false_eq_true, not_true_eq_false, not_false_eq_true, List.contains_cons, List.contains_nil, Nat.reduceBEq, Bool.true_or, Bool.false_or, Bool.or_true, List.set_cons_zero, List.set_cons_succ, List.length_cons, List.length_nil, isLd, Bool.true_and, Bool.false_and, Bool.and_true, Bool.and_false, e5], by simp (maxSteps := 300000) (disch := omega) only [gs, gs2, gs3, ↓reduceIte, Nat.reduceEqDiff, Nat.mul_one, Nat.add_zero, Nat.zero_add, Nat.zero_mul, Int.toNat_natCast, Int.reduceToNat, Nat.reduceMul, Nat.reduceAdd, decide_true, decide_false, Bool.not_true, Bool.not_false, true_and, and_true, List.map_cons, List.map_nil, List.nil_append, List.cons_append, List.append_nil, Option.map_some, Option.bind_some, List.getElem?_cons_zero, List.getElem?_cons_succ, Bool.false_eq_true, not_true_eq_false, not_false_eq_true, List.contains_cons, List.contains_nil, Nat.reduceBEq, Bool.true_or, Bool.false_or, Bool.or_true, List.set_cons_zero, List.set_cons_succ, List.length_cons, List.length_nil, isLd, Bool.true_and, Bool.false_and, Bool.and_true, Bool.and_false] <;> rw [ej0], rfl, hPI, by rw [ej0, hstep], Sub.del _ _, hF2⟩ ?_
      clear e0 e3 e4 e5 e6 hv hmin hj hjf hvr
      have hSd : Sub G (del G3 bF) := hS2.in_del hbF
      rintro m' T G4 ⟨j, f, fl', e0, e3, e4, e5, e7, rfl, hP, hpp, hS4, hF4⟩
      have f1 := rd_sub (hSd.trans hS4) k1
      have hvr := hI.rng (st.q.getD m' 0) (mem_getD'.2 ⟨m', hP.hj, rfl⟩)
      have hl' := hP.cap.1
      simp (maxSteps := 300000) (disch := omega) only [gs, gs2, gs3, ↓reduceIte, Nat.reduceEqDiff, Nat.mul_one, Nat.add_zero, Nat.zero_add, Nat.zero_mul, Int.toNat_natCast, Int.reduceToNat, Nat.reduceMul, Nat.reduceAdd, decide_true, decide_false, Bool.not_true, Bool.not_false, true_and, and_true, List.map_cons, List.map_nil, List.nil_append, List.cons_append, List.append_nil, Option.map_some, Option.bind_some, List.getElem?_cons_zero, List.getElem?_cons_succ, Bool.false_eq_true, not_true_eq_false, not_false_eq_true, List.contains_cons, List.contains_nil, Nat.reduceBEq, Bool.true_or, Bool.false_or, Bool.or_true, List.set_cons_zero, List.set_cons_succ, List.length_cons, List.length_nil, isLd, Bool.true_and, Bool.false_and, Bool.and_true, Bool.and_false, e0, e3, e4, e5, e7, f1]
      by_cases hv : st.q.getD m' 0 = N.s
      · simp (maxSteps := 300000) (disch := omega) only [gs, gs2, gs3, ↓reduceIte, Nat.reduceEqDiff, Nat.mul_one, Nat.add_zero, Nat.zero_add, Nat.zero_mul, Int.toNat_natCast, Int.reduceToNat, Nat.reduceMul, Nat.reduceAdd, decide_true, decide_false, Bool.not_true, Bool.not_false, true_and, and_true, List.map_cons, List.map_nil, List.nil_append, List.cons_append, List.append_nil, Option.map_some, Option.bind_some, List.getElem?_cons_zero, List.getElem?_cons_succ, Bool.false_eq_true, not_true_eq_false, not_false_eq_true, List.contains_cons, List.contains_nil, Nat.reduceBEq, Bool.true_or, Bool.false_or, Bool.or_true, List.set_cons_zero, List.set_cons_succ, List.length_cons, List.length_nil, isLd, Bool.true_and, Bool.false_and, Bool.and_true, Bool.and_false, eq_true hv, e0, e3, e4, e5, e7]
        rw [hv, pushP_end] at hpp
        subst hpp
        exact ⟨_, hlt, G4, Sub.refl _, fl', by rw [hfl], rfl, hc', hgr', hSd.trans hS4, hF4⟩
      · obtain ⟨i, f', rfl, hij, ei, huv, hrm, hP', hpp'⟩ := hP.step hI (by omega) hv
        rw [hpp'] at hpp
        have hRd4 : rd G4 (pa Aw (st.q.getD m' 0).toNat) = some (.int .i64 (st.b (st.q.getD m' 0))) := by
          have := hRd (st.q.getD m' 0) (by omega) (by omega)
          exact rd_sub hS4 (rd_away this nbW fun x hx => del_ne _ hx)
        simp (maxSteps := 300000) (disch := omega) only [gs, gs2, gs3, ↓reduceIte, Nat.reduceEqDiff, Nat.mul_one, Nat.add_zero, Nat.zero_add, Nat.zero_mul, Int.toNat_natCast, Int.reduceToNat, Nat.reduceMul, Nat.reduceAdd, decide_true, decide_false, Bool.not_true, Bool.not_false, true_and, and_true, List.map_cons, List.map_nil, List.nil_append, List.cons_append, List.append_nil, Option.map_some, Option.bind_some, List.getElem?_cons_zero, List.getElem?_cons_succ, Bool.false_eq_true, not_true_eq_false, not_false_eq_true, List.contains_cons, List.contains_nil, Nat.reduceBEq, Bool.true_or, Bool.false_or, Bool.or_true, List.set_cons_zero, List.set_cons_succ, List.length_cons, List.length_nil, isLd, Bool.true_and, Bool.false_and, Bool.and_true, Bool.and_false, eq_false hv, e0, e3, e4, e5, e7, hRd4]
        rw [show Value.slice (some ⟨bF, 0, none⟩) N.arcs.length N.arcs.length = .slice (some ⟨bF, 0, none⟩) fl'.length fl'.length by rw [hl']]
        refine spec_l19Push_ok (h.sub hSd) hS4 (del_none _ _) hF4 hn hP.cap (by omega) fun r => ?_
        have hS5 : Sub (del G3 bF) (put G4 bF ⟨(push N.arcs fl' (st.b (st.q.getD m' 0)) (st.q.getD m' 0) acc).map I64, true⟩) := hS4.skip (del_none _ _)
        have hRd5 : rd (put G4 bF ⟨(push N.arcs fl' (st.b (st.q.getD m' 0)) (st.q.getD m' 0) acc).map I64, true⟩) (pa Aw (st.q.getD m' 0).toNat) = some (.int .i64 (st.b (st.q.getD m' 0))) := by
          exact rd_away hRd4 nbW fun x hx => put_ne _ _ hx
        simp (maxSteps := 300000) (disch := omega) only [gs, gs2, gs3, ↓reduceIte, Nat.reduceEqDiff, Nat.mul_one, Nat.add_zero, Nat.zero_add, Nat.zero_mul, Int.toNat_natCast, Int.reduceToNat, Nat.reduceMul, Nat.reduceAdd, decide_true, decide_false, Bool.not_true, Bool.not_false, true_and, and_true, List.map_cons, List.map_nil, List.nil_append, List.cons_append, List.append_nil, Option.map_some, Option.bind_some, List.getElem?_cons_zero, List.getElem?_cons_succ, Bool.false_eq_true, not_true_eq_false, not_false_eq_true, List.contains_cons, List.contains_nil, Nat.reduceBEq, Bool.true_or, Bool.false_or, Bool.or_true, List.set_cons_zero, List.set_cons_succ, List.length_cons, List.length_nil, isLd, Bool.true_and, Bool.false_and, Bool.and_true, Bool.and_false, e0, e3, e4, e5, e7, hRd5]
        exact ⟨i, hij, _, Sub.refl _, i, f', _, by rw [hl'], by rw [ei], rfl, hP', hpp, hS5, put_same _ _ _⟩
    · obtain ⟨i, f', rfl, hij, ei, hmin'⟩ := minP_step hI hj hjf hv acc
      have hmm : min acc (rm N.arcs fl (st.b (st.q.getD m 0)) (st.q.getD m 0)) = (if rm N.arcs fl (st.b (st.q.getD m 0)) (st.q.getD m 0) < acc then rm N.arcs fl (st.b (st.q.getD m 0)) (st.q.getD m 0) else acc) := by split <;> omega
      rw [hmin', ← hmm] at hmin
      have hfr := hRd (st.q.getD m 0) (by omega) (by omega)
      simp (maxSteps := 300000) (disch := omega) only [gs, gs2, gs3, ↓reduceIte, Nat.reduceEqDiff, Nat.mul_one, Nat.add_zero, Nat.zero_add, Nat.zero_mul, Int.toNat_natCast, Int.reduceToNat, Nat.reduceMul, Nat.reduceAdd, decide_true, decide_false, Bool.not_true, Bool.not_false, true_and, and_true, List.map_cons, List.map_nil, List.nil_append, List.cons_append, List.append_nil, Option.map_some, Option.bind_some, List.getElem?_cons_zero, List.getElem?_cons_succ, Bool.false_eq_true, not_true_eq_false, not_false_eq_true, List.contains_cons, List.contains_nil, Nat.reduceBEq, Bool.true_or, Bool.false_or, Bool.or_true, List.set_cons_zero, List.set_cons_succ, List.length_cons, List.length_nil, isLd, Bool.true_and, Bool.false_and, Bool.and_true, Bool.and_false, eq_false hv, e0, e3, e4, e5, e6, f0, f1, f2, f3, hfr]
      refine spec_l19Room_ok (h.sub hS2) (blk_ints hF2) hn hc ?_
      simp (maxSteps := 300000) (disch := omega) only [gs, gs2, gs3, ↓reduceIte, Nat.reduceEqDiff, Nat.mul_one, Nat.add_zero, Nat.zero_add, Nat.zero_mul, Int.toNat_natCast, Int.reduceToNat, Nat.reduceMul, Nat.reduceAdd, decide_true, decide_false, Bool.not_true, Bool.not_false, true_and, and_true, List.map_cons, List.map_nil, List.nil_append, List.cons_append, List.append_nil, Option.map_some, Option.bind_some, List.getElem?_cons_zero, List.getElem?_cons_succ, Bool.false_eq_true, not_true_eq_false, not_false_eq_true, List.contains_cons, List.contains_nil, Nat.reduceBEq, Bool.true_or, Bool.false_or, Bool.or_true, List.set_cons_zero, List.set_cons_succ, List.length_cons, List.length_nil, isLd, Bool.true_and, Bool.false_and, Bool.and_true, Bool.and_false, e0, e3, e4, e5, e6, hfr]
      refine spec_l00Min_ok _ _ ?_
      simp (maxSteps := 300000) (disch := omega) only [gs, gs2, gs3, ↓reduceIte, Nat.reduceEqDiff, Nat.mul_one, Nat.add_zero, Nat.zero_add, Nat.zero_mul, Int.toNat_natCast, Int.reduceToNat, Nat.reduceMul, Nat.reduceAdd, decide_true, decide_false, Bool.not_true, Bool.not_false, true_and, and_true, List.map_cons, List.map_nil, List.nil_append, List.cons_append, List.append_nil, Option.map_some, Option.bind_some, List.getElem?_cons_zero, List.getElem?_cons_succ, Bool.false_eq_true, not_true_eq_false, not_false_eq_true, List.contains_cons, List.contains_nil, Nat.reduceBEq, Bool.true_or, Bool.false_or, Bool.or_true, List.set_cons_zero, List.set_cons_succ, List.length_cons, List.length_nil, isLd, Bool.true_and, Bool.false_and, Bool.and_true, Bool.and_false, e0, e3, e4, e5, e6, hfr]
      exact ⟨i, by omega, _, Sub.refl _, i, f', _, rfl, by rw [ei], rfl, by omega, by omega, hmin, rfl⟩
/-- the result of a function that returns a list, a number and a code. -/
abbrev LII (v : List Int × Int × Int) (K : Value → GH → Prop) (G : GH) : Prop := ∀ G' A c, New G G' A c (v.1.map I64) 1 v.1.length → K (.tuple [.slice A v.1.length c, .int .i64 v.2.1, .int .i64 v.2.2].toArray) G'
theorem LII.err {K : Value → GH → Prop} {G : GH} {v : List Int × Int × Int} {code : Int} (hk : LII v K G) (h : v = ([], 0, code)) : K (.tuple [.slice none 0 0, .int .i64 0, .int .i64 code].toArray) G := by
  subst h; exact hk G none 0 (New.nil _ _)
theorem great_len {N : Net} (hn : NetOk N) : (greatV N).length = N.arcs.length := (great_ok hn).2.1
/-- one's own block, over a smaller ground. -/
theorem own_low {G G' : GH} {b c n : Nat} {xs : List Int} {r : List Value} (s : Sub G G') (nb : G b = none) (hb : G' b = some ⟨xs.map I64 ++ r, true⟩) (hn : xs.length = n) (hc : n + r.length = c) : ∃ G'', Sub G'' G' ∧ New G G'' (some ⟨b, 0, none⟩) c (xs.map I64) 1 n :=
  Own.new (.inr ⟨b, r, rfl, hb, by simpa using hn, by simp; omega, by omega⟩) s fun a ha => by cases ha; exact nb
open Classical in
noncomputable def greatR (N : Net) : List Int × Int × Int := if NetOk N then (greatV N, exc N.arcs (greatV N) N.t N.arcs.length, 0) else ([], 0, 1)
theorem impl_GreatestFlow_ok {G : GH} {N : Net} {A : Option Addr} {c : Nat} (h : T3S G A c N.arcs) (hr : R64 N.n) (hl : N.arcs.length < 2 ^ 40) {K : Value → GH → Prop}
    (hk : LII (greatR N) K G) : GC Try.prog 90 [netV N A c] G K := by
  refine GC_drop (c_impl_GreatestFlow_i (by simp) ?_)
  unfold netV netC
  simp (maxSteps := 300000) (disch := omega) only [gs, gs2, gs3, ↓reduceIte, Nat.reduceEqDiff, Nat.mul_one, Nat.add_zero, Nat.zero_add, Nat.zero_mul, Int.toNat_natCast, Int.reduceToNat, Nat.reduceMul, Nat.reduceAdd, decide_true, decide_false, Bool.not_true, Bool.not_false, true_and, and_true, List.map_cons, List.map_nil, List.nil_append, List.cons_append, List.append_nil, Option.map_some, Option.bind_some, List.getElem?_cons_zero, List.getElem?_cons_succ, Bool.false_eq_true, not_true_eq_false, not_false_eq_true, List.contains_cons, List.contains_nil, Nat.reduceBEq, Bool.true_or, Bool.false_or, Bool.or_true, List.set_cons_zero, List.set_cons_succ, List.length_cons, List.length_nil, isLd, Bool.true_and, Bool.false_and, Bool.and_true, Bool.and_false]
  intro b1 hb1
  have s1 := Sub.put hb1 ⟨[.int .i64 N.n, .int .i64 N.s, .int .i64 N.t, .slice A N.arcs.length c], true⟩
  have k0 : rd (put G b1 ⟨[.int .i64 N.n, .int .i64 N.s, .int .i64 N.t, .slice A N.arcs.length c], true⟩) (some ⟨b1, 0, none⟩) = some (.int .i64 N.n) := rd_box _ _ _ 0 _ rfl
  have k1 : rd (put G b1 ⟨[.int .i64 N.n, .int .i64 N.s, .int .i64 N.t, .slice A N.arcs.length c], true⟩) (some ⟨b1, 1, none⟩) = some (.int .i64 N.s) := rd_box _ _ _ 1 _ rfl
  have k2 : rd (put G b1 ⟨[.int .i64 N.n, .int .i64 N.s, .int .i64 N.t, .slice A N.arcs.length c], true⟩) (some ⟨b1, 2, none⟩) = some (.int .i64 N.t) := rd_box _ _ _ 2 _ rfl
  have k3 : rd (put G b1 ⟨[.int .i64 N.n, .int .i64 N.s, .int .i64 N.t, .slice A N.arcs.length c], true⟩) (some ⟨b1, 3, none⟩) = some (.slice A N.arcs.length c) := rd_box _ _ _ 3 _ rfl
  revert s1 k0 k1 k2 k3
  generalize put G b1 ⟨[.int .i64 N.n, .int .i64 N.s, .int .i64 N.t, .slice A N.arcs.length c], true⟩ = G1
  intro s1 k0 k1 k2 k3
  simp (maxSteps := 300000) (disch := omega) only [gs, gs2, gs3, ↓reduceIte, Nat.reduceEqDiff, Nat.mul_one, Nat.add_zero, Nat.zero_add, Nat.zero_mul, Int.toNat_natCast, Int.reduceToNat, Nat.reduceMul, Nat.reduceAdd, decide_true, decide_false, Bool.not_true, Bool.not_false, true_and, and_true, List.map_cons, List.map_nil, List.nil_append, List.cons_append, List.append_nil, Option.map_some, Option.bind_some, List.getElem?_cons_zero, List.getElem?_cons_succ, Bool.false_eq_true, not_true_eq_false, not_false_eq_true, List.contains_cons, List.contains_nil, Nat.reduceBEq, Bool.true_or, Bool.false_or, Bool.or_true, List.set_cons_zero, List.set_cons_succ, List.length_cons, List.length_nil, isLd, Bool.true_and, Bool.false_and, Bool.and_true, Bool.and_false, k0, k1, k2, k3]
  refine impl_ValidNetwork_ok (N := N) (h.sub s1) hr hl fun b hb => ?_
  cases b
  · simp (maxSteps := 300000) (disch := omega) only [gs, gs2, gs3, ↓reduceIte, Nat.reduceEqDiff, Nat.mul_one, Nat.add_zero, Nat.zero_add, Nat.zero_mul, Int.toNat_natCast, Int.reduceToNat, Nat.reduceMul, Nat.reduceAdd, decide_true, decide_false, Bool.not_true, Bool.not_false, true_and, and_true, List.map_cons, List.map_nil, List.nil_append, List.cons_append, List.append_nil, Option.map_some, Option.bind_some, List.getElem?_cons_zero, List.getElem?_cons_succ, Bool.false_eq_true, not_true_eq_false, not_false_eq_true, List.contains_cons, List.contains_nil, Nat.reduceBEq, Bool.true_or, Bool.false_or, Bool.or_true, List.set_cons_zero, List.set_cons_succ, List.length_cons, List.length_nil, isLd, Bool.true_and, Bool.false_and, Bool.and_true, Bool.and_false]
    exact ⟨G, s1, hk.err (by unfold greatR; rw [if_neg (fun x => by simpa using hb.2 x)])⟩
  · have hn := hb.1 rfl
    simp (maxSteps := 300000) (disch := omega) only [gs, gs2, gs3, ↓reduceIte, Nat.reduceEqDiff, Nat.mul_one, Nat.add_zero, Nat.zero_add, Nat.zero_mul, Int.toNat_natCast, Int.reduceToNat, Nat.reduceMul, Nat.reduceAdd, decide_true, decide_false, Bool.not_true, Bool.not_false, true_and, and_true, List.map_cons, List.map_nil, List.nil_append, List.cons_append, List.append_nil, Option.map_some, Option.bind_some, List.getElem?_cons_zero, List.getElem?_cons_succ, Bool.false_eq_true, not_true_eq_false, not_false_eq_true, List.contains_cons, List.contains_nil, Nat.reduceBEq, Bool.true_or, Bool.false_or, Bool.or_true, List.set_cons_zero, List.set_cons_succ, List.length_cons, List.length_nil, isLd, Bool.true_and, Bool.false_and, Bool.and_true, Bool.and_false, k0, k1, k2, k3]
    refine impl_greatestFlow_ok (N := N) (h.sub s1) hn fun G2 bF bO cO r nF nO hS hF hO hlO hne => ?_
    have hV : greatR N = (greatV N, exc N.arcs (greatV N) N.t N.arcs.length, 0) := if_pos hn
    have f0 := rd_sub hS k0
    have f1 := rd_sub hS k1
    have f2 := rd_sub hS k2
    have f3 := rd_sub hS k3
    have hfl := great_len hn
    have h3 := hn.2.2.1
    rw [hV] at hk
    simp (maxSteps := 300000) (disch := omega) only [gs, gs2, gs3, ↓reduceIte, Nat.reduceEqDiff, Nat.mul_one, Nat.add_zero, Nat.zero_add, Nat.zero_mul, Int.toNat_natCast, Int.reduceToNat, Nat.reduceMul, Nat.reduceAdd, decide_true, decide_false, Bool.not_true, Bool.not_false, true_and, and_true, List.map_cons, List.map_nil, List.nil_append, List.cons_append, List.append_nil, Option.map_some, Option.bind_some, List.getElem?_cons_zero, List.getElem?_cons_succ, Bool.false_eq_true, not_true_eq_false, not_false_eq_true, List.contains_cons, List.contains_nil, Nat.reduceBEq, Bool.true_or, Bool.false_or, Bool.or_true, List.set_cons_zero, List.set_cons_succ, List.length_cons, List.length_nil, isLd, Bool.true_and, Bool.false_and, Bool.and_true, Bool.and_false, f0, f1, f2, f3]
    rw [show Value.slice (some ⟨bF, 0, none⟩) N.arcs.length N.arcs.length = .slice (some ⟨bF, 0, none⟩) (greatV N).length (greatV N).length by rw [hfl]]
    refine impl_excess_ok (N := N) ((h.sub s1).sub hS) (blk_ints hF) hn (cap_FlB hn (great_ok hn).2) fun bE hbE => ?_
    have sE := Sub.put hbE ⟨(List.range N.n.toNat).map (fun v : Nat => I64 (exc N.arcs (greatV N) v N.arcs.length)), true⟩
    have fE : rd (put G2 bE ⟨(List.range N.n.toNat).map (fun v : Nat => I64 (exc N.arcs (greatV N) v N.arcs.length)), true⟩) (some ⟨bE, N.t.toNat, none⟩) = some (.int .i64 (exc N.arcs (greatV N) N.t N.arcs.length)) := by
      rw [rd_put]
      have : N.t.toNat < N.n.toNat := by omega
      simp [this, I64, Int.toNat_of_nonneg h3.1]
    have f2' := rd_sub sE f2
    simp (maxSteps := 300000) (disch := omega) only [gs, gs2, gs3, ↓reduceIte, Nat.reduceEqDiff, Nat.mul_one, Nat.add_zero, Nat.zero_add, Nat.zero_mul, Int.toNat_natCast, Int.reduceToNat, Nat.reduceMul, Nat.reduceAdd, decide_true, decide_false, Bool.not_true, Bool.not_false, true_and, and_true, List.map_cons, List.map_nil, List.nil_append, List.cons_append, List.append_nil, Option.map_some, Option.bind_some, List.getElem?_cons_zero, List.getElem?_cons_succ, Bool.false_eq_true, not_true_eq_false, not_false_eq_true, List.contains_cons, List.contains_nil, Nat.reduceBEq, Bool.true_or, Bool.false_or, Bool.or_true, List.set_cons_zero, List.set_cons_succ, List.length_cons, List.length_nil, isLd, Bool.true_and, Bool.false_and, Bool.and_true, Bool.and_false, f2', fE]
    obtain ⟨G3, s3, hN⟩ := own_low (n := (greatV N).length) (c := (greatV N).length) (r := []) (s1.trans hS) (s1.none nF) (by rw [List.append_nil]; exact hF) rfl (by simp)
    exact ⟨G3, s3.trans sE, hk _ _ _ hN⟩
theorem getD_set3 (es : List T3) (k : Nat) (x : T3) (i : Nat) (hi : i < es.length) : (es.set k x).getD i z3 = if k = i then x else es.getD i z3 := by
  simp only [List.getD, List.getElem?_set]
  by_cases h : k = i
  · subst h; simp [hi]
  · simp [h]
theorem flat3_set2 (x : Int) (r : List Value) : ∀ (es : List T3) (k : Nat), k < es.length → (flat3 es ++ r).set (k * 3 + 2) (.int .i64 x) = flat3 (es.set k ((es.getD k z3).1, (es.getD k z3).2.1, x)) ++ r
  | [], k, h => by simp at h
  | e :: es, 0, _ => by simp [flat3, c3, List.getD]
  | e :: es, k + 1, h => by
    have ih := flat3_set2 x r es k (by simpa using h)
    have e1 : flat3 (e :: es) = c3 e ++ flat3 es := by simp [flat3]
    have e2 : (e :: es).getD (k + 1) z3 = es.getD k z3 := rfl
    rw [e1, e2, List.set_cons_succ, show flat3 (e :: es.set k ((es.getD k z3).1, (es.getD k z3).2.1, x)) = c3 e ++ flat3 (es.set k ((es.getD k z3).1, (es.getD k z3).2.1, x)) by simp [flat3], List.append_assoc, List.append_assoc, ← ih, show (k + 1) * 3 + 2 = (c3 e).length + (k * 3 + 2) by simp [c3]; omega, List.set_append_right _ _ (by omega), Nat.add_sub_cancel_left]
theorem T3S.cells {G : GH} {A : Option Addr} {c : Nat} {es : List T3} (h : T3S G A c es) : Cells G A (flat3 es) := fun i v hv => by
  have hl : i < (flat3 es).length := by
    rcases Nat.lt_or_ge i (flat3 es).length with h | h
    · exact h
    · rw [List.getElem?_eq_none h] at hv; cases hv
  rw [flat3_len] at hl
  have hi : i / 3 < es.length := by omega
  obtain ⟨g0, g1, g2⟩ := flat3_get es (i / 3) hi
  have h3 : i % 3 = 0 ∨ i % 3 = 1 ∨ i % 3 = 2 := by omega
  rcases h3 with h3 | h3 | h3
  · rw [show i = i / 3 * 3 by omega] at hv ⊢
    rw [g0] at hv; cases hv
    exact h.r0 _ hi
  · have e : i = i / 3 * 3 + 1 := by omega
    rw [e] at hv ⊢
    rw [g1] at hv; cases hv
    exact h.r1 _ hi
  · have e : i = i / 3 * 3 + 2 := by omega
    rw [e] at hv ⊢
    rw [g2] at hv; cases hv
    exact h.r2 _ hi
theorem flat3_one (es : List T3) : ∀ v ∈ flat3 es, oneB v = true := fun v hv => by
  obtain ⟨e, _, h⟩ := List.mem_flatMap.1 hv
  exact c3_one e v h
/-- a network with an arc closed. -/
def lessA (es : List T3) (k : Nat) : List T3 := es.set k ((es.getD k z3).1, (es.getD k z3).2.1, 0)
def lessN (N : Net) (k : Nat) : Net := ⟨N.n, N.s, N.t, lessA N.arcs k⟩
theorem lessA_len (es : List T3) (k : Nat) : (lessA es k).length = es.length := by simp [lessA]
theorem lessA_get (es : List T3) (k i : Nat) (hi : i < es.length) : ((lessA es k).getD i z3).1 = (es.getD i z3).1 ∧ ((lessA es k).getD i z3).2.1 = (es.getD i z3).2.1 ∧ (((lessA es k).getD i z3).2.2 = (es.getD i z3).2.2 ∨ ((lessA es k).getD i z3).2.2 = 0) := by
  unfold lessA
  rw [getD_set3 _ _ _ _ hi]
  by_cases h : k = i
  · subst h; rw [if_pos rfl]; exact ⟨rfl, rfl, .inr rfl⟩
  · rw [if_neg h]; exact ⟨rfl, rfl, .inl rfl⟩
theorem less_ok {N : Net} (hn : NetOk N) (k : Nat) : NetOk (lessN N k) := by
  obtain ⟨h1, h2, h3, h4, ⟨h5, h6⟩, h7⟩ := hn
  refine ⟨h1, h2, h3, h4, ⟨fun i hi => ?_, fun i hi => ?_⟩, ?_⟩
  · have hi : i < N.arcs.length := by have := lessA_len N.arcs k; unfold lessN at hi; dsimp only at hi; omega
    have := h5 i hi
    obtain ⟨e1, e2, e3⟩ := lessA_get N.arcs k i hi
    unfold okArc at this ⊢
    show (0 ≤ ((lessA N.arcs k).getD i z3).1 ∧ ((lessA N.arcs k).getD i z3).1 ≤ N.n - 1) ∧ (0 ≤ ((lessA N.arcs k).getD i z3).2.1 ∧ ((lessA N.arcs k).getD i z3).2.1 ≤ N.n - 1) ∧ ((lessA N.arcs k).getD i z3).1 ≠ ((lessA N.arcs k).getD i z3).2.1 ∧ (0 ≤ ((lessA N.arcs k).getD i z3).2.2 ∧ ((lessA N.arcs k).getD i z3).2.2 ≤ 1000000)
    rw [e1, e2]
    rcases e3 with e3 | e3 <;> rw [e3] <;> omega
  · have hi : i + 1 < N.arcs.length := by have := lessA_len N.arcs k; unfold lessN at hi; dsimp only at hi; omega
    have := h6 i hi
    obtain ⟨e1, e2, _⟩ := lessA_get N.arcs k i (by omega)
    obtain ⟨e3, e4, _⟩ := lessA_get N.arcs k (i + 1) hi
    unfold ltArc at this ⊢
    show ((lessA N.arcs k).getD i z3).1 < ((lessA N.arcs k).getD (i + 1) z3).1 ∨ ((lessA N.arcs k).getD i z3).1 = ((lessA N.arcs k).getD (i + 1) z3).1 ∧ ((lessA N.arcs k).getD i z3).2.1 < ((lessA N.arcs k).getD (i + 1) z3).2.1
    rw [e1, e2, e3, e4]; exact this
  · show (lessA N.arcs k).length ≤ 24
    rw [lessA_len]; exact h7
/-- the value of the greatest flow. -/
noncomputable def valN (N : Net) : Int := exc N.arcs (greatV N) N.t N.arcs.length
noncomputable def narrB (N : Net) (k : Int) : Bool := decide (valN (lessN N k.toNat) < valN N)
noncomputable def narrA (N : Net) : List Int := (iota N.arcs.length).filter (narrB N)
open Classical in
noncomputable def narrV (N : Net) : List Int × Int := if NetOk N then (narrA N, 0) else ([], 1)
theorem narrA_len (N : Net) : (narrA N).length ≤ N.arcs.length := by
  have := List.length_filter_le (narrB N) (iota N.arcs.length)
  have e : (iota N.arcs.length).length = N.arcs.length := by simp [iota]
  unfold narrA; omega
theorem narrV_len (N : Net) : (narrV N).1.length ≤ 2 ^ 20 := by
  unfold narrV; split
  · rename_i hn
    have := narrA_len N
    have := hn.2.2.2.2.2
    dsimp only; omega
  · simp
theorem greatR_val {N : Net} (hn : NetOk N) : greatR N = (greatV N, valN N, 0) := if_pos hn
theorem slices_CloneArc_ok {G : GH} {A : Option Addr} {c : Nat} {es : List T3} (h : T3S G A c es) (hl : es.length < 2 ^ 30) {K : Value → GH → Prop}
    (hk : ∀ G' A' c', New G G' A' c' (flat3 es) 3 es.length → K (.slice A' es.length c') G') : GC Try.prog 197 [.slice A es.length c] G K := by
  refine c_slices_Clone_impl_Arc_impl_Arc_i (by simp) ?_
  cases A with
  | none =>
    have h0 : es.length = 0 := by
      rcases Nat.eq_zero_or_pos es.length with h0 | h0
      · exact h0
      · have := h.sn h0; simp [sn] at this
    obtain rfl : es = [] := List.length_eq_zero_iff.1 h0
    simp (maxSteps := 300000) (disch := omega) only [gs, gs2, gs3, ↓reduceIte, Nat.reduceEqDiff, Nat.mul_one, Nat.add_zero, Nat.zero_add, Nat.zero_mul, Int.toNat_natCast, Int.reduceToNat, Nat.reduceMul, Nat.reduceAdd, decide_true, decide_false, Bool.not_true, Bool.not_false, true_and, and_true, List.map_cons, List.map_nil, List.nil_append, List.cons_append, List.append_nil, Option.map_some, Option.bind_some, List.getElem?_cons_zero, List.getElem?_cons_succ, Bool.false_eq_true, not_true_eq_false, not_false_eq_true, List.contains_cons, List.contains_nil, Nat.reduceBEq, Bool.true_or, Bool.false_or, Bool.or_true, List.set_cons_zero, List.set_cons_succ, List.length_cons, List.length_nil, isLd, Bool.true_and, Bool.false_and, Bool.and_true, Bool.and_false, Option.isNone_none]
    exact hk G none 0 (New.nil _ _)
  | some a =>
    simp (maxSteps := 300000) (disch := omega) only [gs, gs2, gs3, ↓reduceIte, Nat.reduceEqDiff, Nat.mul_one, Nat.add_zero, Nat.zero_add, Nat.zero_mul, Int.toNat_natCast, Int.reduceToNat, Nat.reduceMul, Nat.reduceAdd, decide_true, decide_false, Bool.not_true, Bool.not_false, true_and, and_true, List.map_cons, List.map_nil, List.nil_append, List.cons_append, List.append_nil, Option.map_some, Option.bind_some, List.getElem?_cons_zero, List.getElem?_cons_succ, Bool.false_eq_true, not_true_eq_false, not_false_eq_true, List.contains_cons, List.contains_nil, Nat.reduceBEq, Bool.true_or, Bool.false_or, Bool.or_true, List.set_cons_zero, List.set_cons_succ, List.length_cons, List.length_nil, isLd, Bool.true_and, Bool.false_and, Bool.and_true, Bool.and_false, Option.isNone_some, gBs]
    refine ⟨by intro v hv; simp at hv, fun b hb => ?_⟩
    refine ap_new (New.mk hb [] 3 0 rfl) (Sub.refl _) (h.sub (Sub.put hb _)).cells (flat3_len es) (flat3_one es) rfl (by omega) (by omega) (by omega) fun G'' A' c' hN => ?_
    simp (maxSteps := 300000) (disch := omega) only [gs, gs2, gs3, ↓reduceIte, Nat.reduceEqDiff, Nat.mul_one, Nat.add_zero, Nat.zero_add, Nat.zero_mul, Int.toNat_natCast, Int.reduceToNat, Nat.reduceMul, Nat.reduceAdd, decide_true, decide_false, Bool.not_true, Bool.not_false, true_and, and_true, List.map_cons, List.map_nil, List.nil_append, List.cons_append, List.append_nil, Option.map_some, Option.bind_some, List.getElem?_cons_zero, List.getElem?_cons_succ, Bool.false_eq_true, not_true_eq_false, not_false_eq_true, List.contains_cons, List.contains_nil, Nat.reduceBEq, Bool.true_or, Bool.false_or, Bool.or_true, List.set_cons_zero, List.set_cons_succ, List.length_cons, List.length_nil, isLd, Bool.true_and, Bool.false_and, Bool.and_true, Bool.and_false]
    simpa using hk _ _ _ (hN.cast (by simp) (by simp))
/-- the memory of a network whose arcs are a copy of its own. -/
theorem own_arcs {G G2 : GH} {N : Net} {b9 c' : Nat} {A' : Option Addr} (h0 : 0 < N.arcs.length) (n9 : G b9 = none) {cs : List Value} (hN : New (put G b9 ⟨cs, true⟩) G2 A' c' (flat3 N.arcs) 3 N.arcs.length) :
    ∃ bC r, A' = some ⟨bC, 0, none⟩ ∧ bC ≠ b9 ∧ G bC = none ∧ G2 b9 = some ⟨cs, true⟩ ∧ (put G2 b9 ⟨netC N A' c', true⟩) bC = some ⟨flat3 N.arcs ++ r, true⟩ ∧ N.arcs.length * 3 ≤ (flat3 N.arcs ++ r).length ∧ N.arcs.length ≤ c' ∧ Sub G G2 := by
  · skip
    rcases hN with ⟨_, _, h0, _, _⟩ | ⟨bC, r, rfl, hbC, rfl, hl1, hl2, hc2⟩
    · omega
    obtain ⟨q1, q2⟩ := put_none.1 hbC
    refine ⟨bC, r, rfl, q1, q2, by rw [put_ne _ _ q1.symm, put_same], by rw [put_ne _ _ q1, put_same], ?_, hc2, ?_⟩
    · rw [List.length_append, hl1]; omega
    · exact ((Sub.refl G).skip n9).skip q2
theorem less_mem {G H1 : GH} {N : Net} {b9 bC c' k : Nat} {r : List Value} (hk : k < N.arcs.length) (ne : bC ≠ b9) (n9 : G b9 = none) (nC : G bC = none) (h9 : H1 b9 = some ⟨netC N (some ⟨bC, 0, none⟩) c', true⟩) (hC : H1 bC = some ⟨flat3 N.arcs ++ r, true⟩) (hc : N.arcs.length ≤ c') (s : Sub G H1) :
    Sub G (put H1 bC ⟨(flat3 N.arcs ++ r).set (k * 3 + 2) (.int .i64 0), true⟩) ∧ NetP (put H1 bC ⟨(flat3 N.arcs ++ r).set (k * 3 + 2) (.int .i64 0), true⟩) (some ⟨b9, 0, none⟩) (lessN N k) (some ⟨bC, 0, none⟩) c' := by
  refine ⟨s.skip nC, ?_⟩
  rw [flat3_set2 _ _ _ _ hk]
  have e9 : ∀ i, rd (put H1 bC ⟨flat3 (N.arcs.set k ((N.arcs.getD k z3).1, (N.arcs.getD k z3).2.1, 0)) ++ r, true⟩) (some ⟨b9, i, none⟩) = (netC (lessN N k) (some ⟨bC, 0, none⟩) c')[i]? := fun i => by
    rw [rd_put_ne _ _ _ _ _ ne.symm]
    simp only [rd, h9, Option.bind_some]
    unfold netC lessN; dsimp only; rw [lessA_len]
  have hh := lessA_len N.arcs k
  refine ⟨e9 0, e9 1, e9 2, e9 3, ?_⟩
  refine Cells.t3 (fun i v hv => ?_) (by show (lessA N.arcs k).length ≤ c'; omega)
  rw [pa_mk, rd_put, Nat.zero_add]
  have hlt : i < (flat3 (lessN N k).arcs).length := by
    rcases Nat.lt_or_ge i (flat3 (lessN N k).arcs).length with h | h
    · exact h
    · rw [List.getElem?_eq_none h] at hv; cases hv
  show (flat3 (lessN N k).arcs ++ r)[i]? = some v
  rw [List.getElem?_append_left hlt]; exact hv
theorem impl_NarrowArcs_ok {G : GH} {N : Net} {A : Option Addr} {c : Nat} (h : T3S G A c N.arcs) (hr : R64 N.n) (hl : N.arcs.length < 2 ^ 40) {K : Value → GH → Prop}
    (hk : LI (narrV N) K G) : GC Try.prog 96 [netV N A c] G K := by
  refine GC_drop (c_impl_NarrowArcs_i (by simp) ?_)
  unfold netV netC
  simp (maxSteps := 300000) (disch := omega) only [gs, gs2, gs3, ↓reduceIte, Nat.reduceEqDiff, Nat.mul_one, Nat.add_zero, Nat.zero_add, Nat.zero_mul, Int.toNat_natCast, Int.reduceToNat, Nat.reduceMul, Nat.reduceAdd, decide_true, decide_false, Bool.not_true, Bool.not_false, true_and, and_true, List.map_cons, List.map_nil, List.nil_append, List.cons_append, List.append_nil, Option.map_some, Option.bind_some, List.getElem?_cons_zero, List.getElem?_cons_succ, Bool.false_eq_true, not_true_eq_false, not_false_eq_true, List.contains_cons, List.contains_nil, Nat.reduceBEq, Bool.true_or, Bool.false_or, Bool.or_true, List.set_cons_zero, List.set_cons_succ, List.length_cons, List.length_nil, isLd, Bool.true_and, Bool.false_and, Bool.and_true, Bool.and_false]
  intro b1 hb1
  have s1 := Sub.put hb1 ⟨[.int .i64 N.n, .int .i64 N.s, .int .i64 N.t, .slice A N.arcs.length c], true⟩
  have k0 : rd (put G b1 ⟨[.int .i64 N.n, .int .i64 N.s, .int .i64 N.t, .slice A N.arcs.length c], true⟩) (some ⟨b1, 0, none⟩) = some (.int .i64 N.n) := rd_box _ _ _ 0 _ rfl
  have k1 : rd (put G b1 ⟨[.int .i64 N.n, .int .i64 N.s, .int .i64 N.t, .slice A N.arcs.length c], true⟩) (some ⟨b1, 1, none⟩) = some (.int .i64 N.s) := rd_box _ _ _ 1 _ rfl
  have k2 : rd (put G b1 ⟨[.int .i64 N.n, .int .i64 N.s, .int .i64 N.t, .slice A N.arcs.length c], true⟩) (some ⟨b1, 2, none⟩) = some (.int .i64 N.t) := rd_box _ _ _ 2 _ rfl
  have k3 : rd (put G b1 ⟨[.int .i64 N.n, .int .i64 N.s, .int .i64 N.t, .slice A N.arcs.length c], true⟩) (some ⟨b1, 3, none⟩) = some (.slice A N.arcs.length c) := rd_box _ _ _ 3 _ rfl
  revert s1 k0 k1 k2 k3
  generalize put G b1 ⟨[.int .i64 N.n, .int .i64 N.s, .int .i64 N.t, .slice A N.arcs.length c], true⟩ = G1
  intro s1 k0 k1 k2 k3
  simp (maxSteps := 300000) (disch := omega) only [gs, gs2, gs3, ↓reduceIte, Nat.reduceEqDiff, Nat.mul_one, Nat.add_zero, Nat.zero_add, Nat.zero_mul, Int.toNat_natCast, Int.reduceToNat, Nat.reduceMul, Nat.reduceAdd, decide_true, decide_false, Bool.not_true, Bool.not_false, true_and, and_true, List.map_cons, List.map_nil, List.nil_append, List.cons_append, List.append_nil, Option.map_some, Option.bind_some, List.getElem?_cons_zero, List.getElem?_cons_succ, Bool.false_eq_true, not_true_eq_false, not_false_eq_true, List.contains_cons, List.contains_nil, Nat.reduceBEq, Bool.true_or, Bool.false_or, Bool.or_true, List.set_cons_zero, List.set_cons_succ, List.length_cons, List.length_nil, isLd, Bool.true_and, Bool.false_and, Bool.and_true, Bool.and_false, k0, k1, k2, k3]
  refine impl_GreatestFlow_ok (N := N) (h.sub s1) hr hl fun G2 Av cv hV => ?_
  have s2 := hV.sub
  clear hV
  have k0 := rd_sub s2 k0
  have k1 := rd_sub s2 k1
  have k2 := rd_sub s2 k2
  have k3 := rd_sub s2 k3
  have hA := (h.sub s1).sub s2
  have s12 := s1.trans s2
  by_cases hn : NetOk N
  · rw [greatR_val hn]
    have hR : narrV N = (narrA N, 0) := if_pos hn
    rw [hR] at hk
    have n5 := hn.2.2.2.2.2
    simp (maxSteps := 300000) (disch := omega) only [gs, gs2, gs3, ↓reduceIte, Nat.reduceEqDiff, Nat.mul_one, Nat.add_zero, Nat.zero_add, Nat.zero_mul, Int.toNat_natCast, Int.reduceToNat, Nat.reduceMul, Nat.reduceAdd, decide_true, decide_false, Bool.not_true, Bool.not_false, true_and, and_true, List.map_cons, List.map_nil, List.nil_append, List.cons_append, List.append_nil, Option.map_some, Option.bind_some, List.getElem?_cons_zero, List.getElem?_cons_succ, Bool.false_eq_true, not_true_eq_false, not_false_eq_true, List.contains_cons, List.contains_nil, Nat.reduceBEq, Bool.true_or, Bool.false_or, Bool.or_true, List.set_cons_zero, List.set_cons_succ, List.length_cons, List.length_nil, isLd, Bool.true_and, Bool.false_and, Bool.and_true, Bool.and_false, k0, k1, k2, k3]
    refine gLoop_intro (fun m T G' => ∃ (k : Nat) (Ap : Option Addr) (cp : Nat), T 1 = .pointer (some ⟨b1, 0, none⟩) ∧ T 5 = .int .i64 (valN N) ∧ T 7 = .slice Ap ((iota k).filter (narrB N)).length cp ∧ T 24 = .int .i64 N.arcs.length ∧ T 25 = .int .i64 k ∧ m + k = N.arcs.length ∧ k ≤ N.arcs.length ∧
      Own G' Ap cp (((iota k).filter (narrB N)).map I64) 1 ((iota k).filter (narrB N)).length ∧ Sub G2 G' ∧ Off G2 Ap)
      N.arcs.length ⟨0, none, 0, by simp (maxSteps := 300000) (disch := omega) only [gs, gs2, gs3, ↓reduceIte, Nat.reduceEqDiff, Nat.mul_one, Nat.add_zero, Nat.zero_add, Nat.zero_mul, Int.toNat_natCast, Int.reduceToNat, Nat.reduceMul, Nat.reduceAdd, decide_true, decide_false, Bool.not_true, Bool.not_false, true_and, and_true, List.map_cons, List.map_nil, List.nil_append, List.cons_append, List.append_nil, Option.map_some, Option.bind_some, List.getElem?_cons_zero, List.getElem?_cons_succ, Bool.false_eq_true, not_true_eq_false, not_false_eq_true, List.contains_cons, List.contains_nil, Nat.reduceBEq, Bool.true_or, Bool.false_or, Bool.or_true, List.set_cons_zero, List.set_cons_succ, List.length_cons, List.length_nil, isLd, Bool.true_and, Bool.false_and, Bool.and_true, Bool.and_false], by simp (maxSteps := 300000) (disch := omega) only [gs, gs2, gs3, ↓reduceIte, Nat.reduceEqDiff, Nat.mul_one, Nat.add_zero, Nat.zero_add, Nat.zero_mul, Int.toNat_natCast, Int.reduceToNat, Nat.reduceMul, Nat.reduceAdd, decide_true, decide_false, Bool.not_true, Bool.not_false, true_and, and_true, List.map_cons, List.map_nil, List.nil_append, List.cons_append, List.append_nil, Option.map_some, Option.bind_some, List.getElem?_cons_zero, List.getElem?_cons_succ, Bool.false_eq_true, not_true_eq_false, not_false_eq_true, List.contains_cons, List.contains_nil, Nat.reduceBEq, Bool.true_or, Bool.false_or, Bool.or_true, List.set_cons_zero, List.set_cons_succ, List.length_cons, List.length_nil, isLd, Bool.true_and, Bool.false_and, Bool.and_true, Bool.and_false], by simp (maxSteps := 300000) (disch := omega) only [gs, gs2, gs3, ↓reduceIte, Nat.reduceEqDiff, Nat.mul_one, Nat.add_zero, Nat.zero_add, Nat.zero_mul, Int.toNat_natCast, Int.reduceToNat, Nat.reduceMul, Nat.reduceAdd, decide_true, decide_false, Bool.not_true, Bool.not_false, true_and, and_true, List.map_cons, List.map_nil, List.nil_append, List.cons_append, List.append_nil, Option.map_some, Option.bind_some, List.getElem?_cons_zero, List.getElem?_cons_succ, Bool.false_eq_true, not_true_eq_false, not_false_eq_true, List.contains_cons, List.contains_nil, Nat.reduceBEq, Bool.true_or, Bool.false_or, Bool.or_true, List.set_cons_zero, List.set_cons_succ, List.length_cons, List.length_nil, isLd, Bool.true_and, Bool.false_and, Bool.and_true, Bool.and_false] <;> rfl, by simp (maxSteps := 300000) (disch := omega) only [gs, gs2, gs3, ↓reduceIte, Nat.reduceEqDiff, Nat.mul_one, Nat.add_zero, Nat.zero_add, Nat.zero_mul, Int.toNat_natCast, Int.reduceToNat, Nat.reduceMul, Nat.reduceAdd, decide_true, decide_false, Bool.not_true, Bool.not_false, true_and, and_true, List.map_cons, List.map_nil, List.nil_append, List.cons_append, List.append_nil, Option.map_some, Option.bind_some, List.getElem?_cons_zero, List.getElem?_cons_succ, Bool.false_eq_true, not_true_eq_false, not_false_eq_true, List.contains_cons, List.contains_nil, Nat.reduceBEq, Bool.true_or, Bool.false_or, Bool.or_true, List.set_cons_zero, List.set_cons_succ, List.length_cons, List.length_nil, isLd, Bool.true_and, Bool.false_and, Bool.and_true, Bool.and_false], by simp (maxSteps := 300000) (disch := omega) only [gs, gs2, gs3, ↓reduceIte, Nat.reduceEqDiff, Nat.mul_one, Nat.add_zero, Nat.zero_add, Nat.zero_mul, Int.toNat_natCast, Int.reduceToNat, Nat.reduceMul, Nat.reduceAdd, decide_true, decide_false, Bool.not_true, Bool.not_false, true_and, and_true, List.map_cons, List.map_nil, List.nil_append, List.cons_append, List.append_nil, Option.map_some, Option.bind_some, List.getElem?_cons_zero, List.getElem?_cons_succ, Bool.false_eq_true, not_true_eq_false, not_false_eq_true, List.contains_cons, List.contains_nil, Nat.reduceBEq, Bool.true_or, Bool.false_or, Bool.or_true, List.set_cons_zero, List.set_cons_succ, List.length_cons, List.length_nil, isLd, Bool.true_and, Bool.false_and, Bool.and_true, Bool.and_false] <;> rfl, by omega, by omega, Own.nil _ _, Sub.refl _, Off.nil _⟩ ?_
    rintro m T G' ⟨k, Ap, cp, e1, e5, e7, e24, e25, hm, hkm, hO, hS, hOff⟩
    have f0 := rd_sub hS k0
    have f1 := rd_sub hS k1
    have f2 := rd_sub hS k2
    have f3 := rd_sub hS k3
    simp (maxSteps := 300000) (disch := omega) only [gs, gs2, gs3, ↓reduceIte, Nat.reduceEqDiff, Nat.mul_one, Nat.add_zero, Nat.zero_add, Nat.zero_mul, Int.toNat_natCast, Int.reduceToNat, Nat.reduceMul, Nat.reduceAdd, decide_true, decide_false, Bool.not_true, Bool.not_false, true_and, and_true, List.map_cons, List.map_nil, List.nil_append, List.cons_append, List.append_nil, Option.map_some, Option.bind_some, List.getElem?_cons_zero, List.getElem?_cons_succ, Bool.false_eq_true, not_true_eq_false, not_false_eq_true, List.contains_cons, List.contains_nil, Nat.reduceBEq, Bool.true_or, Bool.false_or, Bool.or_true, List.set_cons_zero, List.set_cons_succ, List.length_cons, List.length_nil, isLd, Bool.true_and, Bool.false_and, Bool.and_true, Bool.and_false, e1, e5, e7, e24, e25]
    by_cases hkk : (k : Int) < N.arcs.length
    · have hlen : ((iota k).filter (narrB N)).length ≤ k := Nat.le_trans (List.length_filter_le _ _) (by rw [iota_len]; exact Nat.le_refl _)
      simp (maxSteps := 300000) (disch := omega) only [gs, gs2, gs3, ↓reduceIte, Nat.reduceEqDiff, Nat.mul_one, Nat.add_zero, Nat.zero_add, Nat.zero_mul, Int.toNat_natCast, Int.reduceToNat, Nat.reduceMul, Nat.reduceAdd, decide_true, decide_false, Bool.not_true, Bool.not_false, true_and, and_true, List.map_cons, List.map_nil, List.nil_append, List.cons_append, List.append_nil, Option.map_some, Option.bind_some, List.getElem?_cons_zero, List.getElem?_cons_succ, Bool.false_eq_true, not_true_eq_false, not_false_eq_true, List.contains_cons, List.contains_nil, Nat.reduceBEq, Bool.true_or, Bool.false_or, Bool.or_true, List.set_cons_zero, List.set_cons_succ, List.length_cons, List.length_nil, isLd, Bool.true_and, Bool.false_and, Bool.and_true, Bool.and_false, e1, e5, e7, e24, e25, hkk, f0, f1, f2, f3]
      intro b9 hb9
      simp (maxSteps := 300000) (disch := omega) only [gs, gs2, gs3, ↓reduceIte, Nat.reduceEqDiff, Nat.mul_one, Nat.add_zero, Nat.zero_add, Nat.zero_mul, Int.toNat_natCast, Int.reduceToNat, Nat.reduceMul, Nat.reduceAdd, decide_true, decide_false, Bool.not_true, Bool.not_false, true_and, and_true, List.map_cons, List.map_nil, List.nil_append, List.cons_append, List.append_nil, Option.map_some, Option.bind_some, List.getElem?_cons_zero, List.getElem?_cons_succ, Bool.false_eq_true, not_true_eq_false, not_false_eq_true, List.contains_cons, List.contains_nil, Nat.reduceBEq, Bool.true_or, Bool.false_or, Bool.or_true, List.set_cons_zero, List.set_cons_succ, List.length_cons, List.length_nil, isLd, Bool.true_and, Bool.false_and, Bool.and_true, Bool.and_false, e1, e5, e7, e24, e25, f0, f1, f2, f3]
      refine st_fresh (vs := netC N A c) rfl rfl rfl (by intro v hv; simp [netC] at hv; rcases hv with rfl | rfl | rfl | rfl <;> rfl) ?_
      have s9 := Sub.put hb9 ⟨netC N A c, true⟩
      have g3 := rd_sub s9 f3
      simp (maxSteps := 300000) (disch := omega) only [gs, gs2, gs3, ↓reduceIte, Nat.reduceEqDiff, Nat.mul_one, Nat.add_zero, Nat.zero_add, Nat.zero_mul, Int.toNat_natCast, Int.reduceToNat, Nat.reduceMul, Nat.reduceAdd, decide_true, decide_false, Bool.not_true, Bool.not_false, true_and, and_true, List.map_cons, List.map_nil, List.nil_append, List.cons_append, List.append_nil, Option.map_some, Option.bind_some, List.getElem?_cons_zero, List.getElem?_cons_succ, Bool.false_eq_true, not_true_eq_false, not_false_eq_true, List.contains_cons, List.contains_nil, Nat.reduceBEq, Bool.true_or, Bool.false_or, Bool.or_true, List.set_cons_zero, List.set_cons_succ, List.length_cons, List.length_nil, isLd, Bool.true_and, Bool.false_and, Bool.and_true, Bool.and_false, e1, e5, e7, e24, e25, g3]
      refine slices_CloneArc_ok ((hA.sub hS).sub s9) (by omega) fun G3 A3 c3 hN3 => ?_
      simp (maxSteps := 300000) (disch := omega) only [gs, gs2, gs3, ↓reduceIte, Nat.reduceEqDiff, Nat.mul_one, Nat.add_zero, Nat.zero_add, Nat.zero_mul, Int.toNat_natCast, Int.reduceToNat, Nat.reduceMul, Nat.reduceAdd, decide_true, decide_false, Bool.not_true, Bool.not_false, true_and, and_true, List.map_cons, List.map_nil, List.nil_append, List.cons_append, List.append_nil, Option.map_some, Option.bind_some, List.getElem?_cons_zero, List.getElem?_cons_succ, Bool.false_eq_true, not_true_eq_false, not_false_eq_true, List.contains_cons, List.contains_nil, Nat.reduceBEq, Bool.true_or, Bool.false_or, Bool.or_true, List.set_cons_zero, List.set_cons_succ, List.length_cons, List.length_nil, isLd, Bool.true_and, Bool.false_and, Bool.and_true, Bool.and_false, e1, e5, e7, e24, e25]
      obtain ⟨bC, r, rfl, hne, nC, h9, hC, hlC, hcC, s3⟩ := own_arcs (N := N) (by omega) hb9 hN3
      refine st_one h9 (by simp [netC]) rfl ?_
      have hset : (netC N A c).set 3 (.slice (some ⟨bC, 0, none⟩) N.arcs.length c3) = netC N (some ⟨bC, 0, none⟩) c3 := rfl
      rw [hset]
      have s4 := s3.skip (e := ⟨netC N (some ⟨bC, 0, none⟩) c3, true⟩) hb9
      have h9 := put_same G3 b9 ⟨netC N (some ⟨bC, 0, none⟩) c3, true⟩
      revert hC s4 h9
      generalize put G3 b9 ⟨netC N (some ⟨bC, 0, none⟩) c3, true⟩ = H1
      intro hC s4 h9
      have g3 : rd H1 (some ⟨b9, 3, none⟩) = some (.slice (some ⟨bC, 0, none⟩) N.arcs.length c3) := by simp only [rd, h9]; rfl
      simp (maxSteps := 300000) (disch := omega) only [gs, gs2, gs3, ↓reduceIte, Nat.reduceEqDiff, Nat.mul_one, Nat.add_zero, Nat.zero_add, Nat.zero_mul, Int.toNat_natCast, Int.reduceToNat, Nat.reduceMul, Nat.reduceAdd, decide_true, decide_false, Bool.not_true, Bool.not_false, true_and, and_true, List.map_cons, List.map_nil, List.nil_append, List.cons_append, List.append_nil, Option.map_some, Option.bind_some, List.getElem?_cons_zero, List.getElem?_cons_succ, Bool.false_eq_true, not_true_eq_false, not_false_eq_true, List.contains_cons, List.contains_nil, Nat.reduceBEq, Bool.true_or, Bool.false_or, Bool.or_true, List.set_cons_zero, List.set_cons_succ, List.length_cons, List.length_nil, isLd, Bool.true_and, Bool.false_and, Bool.and_true, Bool.and_false, e1, e5, e7, e24, e25, g3]
      refine st_one hC (by omega) rfl ?_
      obtain ⟨s5, hP⟩ := less_mem (k := k) (by omega) hne hb9 nC h9 hC hcC s4
      revert s5 hP
      generalize put H1 bC ⟨(flat3 N.arcs ++ r).set (k * 3 + 2) (.int .i64 0), true⟩ = H2
      intro s5 hP
      have q0 : rd H2 (some ⟨b9, 0, none⟩) = some (.int .i64 (lessN N k).n) := hP.f0
      have q1 : rd H2 (some ⟨b9, 1, none⟩) = some (.int .i64 (lessN N k).s) := hP.f1
      have q2 : rd H2 (some ⟨b9, 2, none⟩) = some (.int .i64 (lessN N k).t) := hP.f2
      have q3 : rd H2 (some ⟨b9, 3, none⟩) = some (.slice (some ⟨bC, 0, none⟩) (lessN N k).arcs.length c3) := hP.f3
      simp (maxSteps := 300000) (disch := omega) only [gs, gs2, gs3, ↓reduceIte, Nat.reduceEqDiff, Nat.mul_one, Nat.add_zero, Nat.zero_add, Nat.zero_mul, Int.toNat_natCast, Int.reduceToNat, Nat.reduceMul, Nat.reduceAdd, decide_true, decide_false, Bool.not_true, Bool.not_false, true_and, and_true, List.map_cons, List.map_nil, List.nil_append, List.cons_append, List.append_nil, Option.map_some, Option.bind_some, List.getElem?_cons_zero, List.getElem?_cons_succ, Bool.false_eq_true, not_true_eq_false, not_false_eq_true, List.contains_cons, List.contains_nil, Nat.reduceBEq, Bool.true_or, Bool.false_or, Bool.or_true, List.set_cons_zero, List.set_cons_succ, List.length_cons, List.length_nil, isLd, Bool.true_and, Bool.false_and, Bool.and_true, Bool.and_false, e1, e5, e7, e24, e25, q0, q1, q2, q3]
      refine impl_GreatestFlow_ok (N := lessN N k) hP.arcs hr (by show (lessA N.arcs k).length < _; rw [lessA_len]; exact hl) fun G4 A4 c4 hN4 => ?_
      have s6 := s5.trans hN4.sub
      clear hN4
      rw [greatR_val (less_ok hn k)]
      simp (maxSteps := 300000) (disch := omega) only [gs, gs2, gs3, ↓reduceIte, Nat.reduceEqDiff, Nat.mul_one, Nat.add_zero, Nat.zero_add, Nat.zero_mul, Int.toNat_natCast, Int.reduceToNat, Nat.reduceMul, Nat.reduceAdd, decide_true, decide_false, Bool.not_true, Bool.not_false, true_and, and_true, List.map_cons, List.map_nil, List.nil_append, List.cons_append, List.append_nil, Option.map_some, Option.bind_some, List.getElem?_cons_zero, List.getElem?_cons_succ, Bool.false_eq_true, not_true_eq_false, not_false_eq_true, List.contains_cons, List.contains_nil, Nat.reduceBEq, Bool.true_or, Bool.false_or, Bool.or_true, List.set_cons_zero, List.set_cons_succ, List.length_cons, List.length_nil, isLd, Bool.true_and, Bool.false_and, Bool.and_true, Bool.and_false, e1, e5, e7, e24, e25]
      have hfl := filter_iota (narrB N) k
      by_cases hv : valN (lessN N k) < valN N
      · rw [if_pos (by unfold narrB; rw [Int.toNat_natCast]; simpa using hv)] at hfl
        simp (maxSteps := 300000) (disch := omega) only [gs, gs2, gs3, ↓reduceIte, Nat.reduceEqDiff, Nat.mul_one, Nat.add_zero, Nat.zero_add, Nat.zero_mul, Int.toNat_natCast, Int.reduceToNat, Nat.reduceMul, Nat.reduceAdd, decide_true, decide_false, Bool.not_true, Bool.not_false, true_and, and_true, List.map_cons, List.map_nil, List.nil_append, List.cons_append, List.append_nil, Option.map_some, Option.bind_some, List.getElem?_cons_zero, List.getElem?_cons_succ, Bool.false_eq_true, not_true_eq_false, not_false_eq_true, List.contains_cons, List.contains_nil, Nat.reduceBEq, Bool.true_or, Bool.false_or, Bool.or_true, List.set_cons_zero, List.set_cons_succ, List.length_cons, List.length_nil, isLd, Bool.true_and, Bool.false_and, Bool.and_true, Bool.and_false, e1, e5, e7, e24, e25, hv, gBs]
        refine ⟨by intro v hv; simp at hv; subst hv; rfl, fun b11 hb11 => ?_⟩
        refine ap_own ((hO.sub s6).sub (Sub.put hb11 _)) (cells_one [.int .i64 (k : Int)] true) (by rfl) (by intro v hv; simp at hv; subst hv; rfl) rfl (by omega) (by omega) (by omega) fun G'' A' c' hO' hG' => ?_
        simp (maxSteps := 300000) (disch := omega) only [gs, gs2, gs3, ↓reduceIte, Nat.reduceEqDiff, Nat.mul_one, Nat.add_zero, Nat.zero_add, Nat.zero_mul, Int.toNat_natCast, Int.reduceToNat, Nat.reduceMul, Nat.reduceAdd, decide_true, decide_false, Bool.not_true, Bool.not_false, true_and, and_true, List.map_cons, List.map_nil, List.nil_append, List.cons_append, List.append_nil, Option.map_some, Option.bind_some, List.getElem?_cons_zero, List.getElem?_cons_succ, Bool.false_eq_true, not_true_eq_false, not_false_eq_true, List.contains_cons, List.contains_nil, Nat.reduceBEq, Bool.true_or, Bool.false_or, Bool.or_true, List.set_cons_zero, List.set_cons_succ, List.length_cons, List.length_nil, isLd, Bool.true_and, Bool.false_and, Bool.and_true, Bool.and_false, e1, e5, e7, e24, e25]
        obtain ⟨t1, t2⟩ := hG' G2 ((hS.trans s6).trans (Sub.put hb11 _)) hOff
        exact ⟨m - 1, by omega, _, Sub.refl _, k + 1, A', c', by rw [hfl]; simp, rfl, by omega, by omega, by rw [hfl]; exact hO'.cast (by simp [I64]) (by simp), t1, t2⟩
      · rw [if_neg (by unfold narrB; rw [Int.toNat_natCast]; simpa using hv)] at hfl
        simp (maxSteps := 300000) (disch := omega) only [gs, gs2, gs3, ↓reduceIte, Nat.reduceEqDiff, Nat.mul_one, Nat.add_zero, Nat.zero_add, Nat.zero_mul, Int.toNat_natCast, Int.reduceToNat, Nat.reduceMul, Nat.reduceAdd, decide_true, decide_false, Bool.not_true, Bool.not_false, true_and, and_true, List.map_cons, List.map_nil, List.nil_append, List.cons_append, List.append_nil, Option.map_some, Option.bind_some, List.getElem?_cons_zero, List.getElem?_cons_succ, Bool.false_eq_true, not_true_eq_false, not_false_eq_true, List.contains_cons, List.contains_nil, Nat.reduceBEq, Bool.true_or, Bool.false_or, Bool.or_true, List.set_cons_zero, List.set_cons_succ, List.length_cons, List.length_nil, isLd, Bool.true_and, Bool.false_and, Bool.and_true, Bool.and_false, e1, e5, e7, e24, e25, hv]
        exact ⟨m - 1, by omega, _, Sub.refl _, k + 1, Ap, cp, by rw [hfl], rfl, by omega, by omega, by rw [hfl]; exact hO.sub s6, hS.trans s6, hOff⟩
    · simp (maxSteps := 300000) (disch := omega) only [gs, gs2, gs3, ↓reduceIte, Nat.reduceEqDiff, Nat.mul_one, Nat.add_zero, Nat.zero_add, Nat.zero_mul, Int.toNat_natCast, Int.reduceToNat, Nat.reduceMul, Nat.reduceAdd, decide_true, decide_false, Bool.not_true, Bool.not_false, true_and, and_true, List.map_cons, List.map_nil, List.nil_append, List.cons_append, List.append_nil, Option.map_some, Option.bind_some, List.getElem?_cons_zero, List.getElem?_cons_succ, Bool.false_eq_true, not_true_eq_false, not_false_eq_true, List.contains_cons, List.contains_nil, Nat.reduceBEq, Bool.true_or, Bool.false_or, Bool.or_true, List.set_cons_zero, List.set_cons_succ, List.length_cons, List.length_nil, isLd, Bool.true_and, Bool.false_and, Bool.and_true, Bool.and_false, e1, e5, e7, e24, e25, hkk]
      obtain rfl : k = N.arcs.length := by omega
      obtain ⟨G'', s3, hN⟩ := hO.new (s12.trans hS) (hOff.mono s12)
      exact ⟨G'', s3, hk _ _ _ hN⟩
  · rw [show greatR N = ([], 0, 1) from if_neg hn]
    simp (maxSteps := 300000) (disch := omega) only [gs, gs2, gs3, ↓reduceIte, Nat.reduceEqDiff, Nat.mul_one, Nat.add_zero, Nat.zero_add, Nat.zero_mul, Int.toNat_natCast, Int.reduceToNat, Nat.reduceMul, Nat.reduceAdd, decide_true, decide_false, Bool.not_true, Bool.not_false, true_and, and_true, List.map_cons, List.map_nil, List.nil_append, List.cons_append, List.append_nil, Option.map_some, Option.bind_some, List.getElem?_cons_zero, List.getElem?_cons_succ, Bool.false_eq_true, not_true_eq_false, not_false_eq_true, List.contains_cons, List.contains_nil, Nat.reduceBEq, Bool.true_or, Bool.false_or, Bool.or_true, List.set_cons_zero, List.set_cons_succ, List.length_cons, List.length_nil, isLd, Bool.true_and, Bool.false_and, Bool.and_true, Bool.and_false, show ((1 : Int) = 0) = False from eq_false (by decide)]
    exact ⟨G, s12, hk.err (if_neg hn)⟩
theorem spec_NarrowArcs_ok {G : GH} {N : Net} {A : Option Addr} {c : Nat} (h : T3S G A c N.arcs) (hr : R64 N.n) (hl : N.arcs.length < 2 ^ 40) {K : Value → GH → Prop}
    (hk : LI (narrV N) K G) : GC Try.prog 95 [netV N A c] G K := by
  refine GC_drop (c_spec_NarrowArcs_i (by simp) ?_)
  unfold netV
  simp (maxSteps := 300000) (disch := omega) only [gs, gs2, gs3, ↓reduceIte, Nat.reduceEqDiff, Nat.mul_one, Nat.add_zero, Nat.zero_add, Nat.zero_mul, Int.toNat_natCast, Int.reduceToNat, Nat.reduceMul, Nat.reduceAdd, decide_true, decide_false, Bool.not_true, Bool.not_false, true_and, and_true, List.map_cons, List.map_nil, List.nil_append, List.cons_append, List.append_nil, Option.map_some, Option.bind_some, List.getElem?_cons_zero, List.getElem?_cons_succ, Bool.false_eq_true, not_true_eq_false, not_false_eq_true, List.contains_cons, List.contains_nil, Nat.reduceBEq, Bool.true_or, Bool.false_or, Bool.or_true, List.set_cons_zero, List.set_cons_succ, List.length_cons, List.length_nil, isLd, Bool.true_and, Bool.false_and, Bool.and_true, Bool.and_false]
  intro b1 hb1
  have hP := NetP.box hb1 h
  have s1 := Sub.put hb1 ⟨netC N A c, true⟩
  revert hP s1
  generalize put G b1 ⟨netC N A c, true⟩ = G1
  intro hP s1
  simp (maxSteps := 300000) (disch := omega) only [gs, gs2, gs3, ↓reduceIte, Nat.reduceEqDiff, Nat.mul_one, Nat.add_zero, Nat.zero_add, Nat.zero_mul, Int.toNat_natCast, Int.reduceToNat, Nat.reduceMul, Nat.reduceAdd, decide_true, decide_false, Bool.not_true, Bool.not_false, true_and, and_true, List.map_cons, List.map_nil, List.nil_append, List.cons_append, List.append_nil, Option.map_some, Option.bind_some, List.getElem?_cons_zero, List.getElem?_cons_succ, Bool.false_eq_true, not_true_eq_false, not_false_eq_true, List.contains_cons, List.contains_nil, Nat.reduceBEq, Bool.true_or, Bool.false_or, Bool.or_true, List.set_cons_zero, List.set_cons_succ, List.length_cons, List.length_nil, isLd, Bool.true_and, Bool.false_and, Bool.and_true, Bool.and_false]
  refine spec_l19Ok_ok hP hr hl fun b hb => ?_
  cases b
  · simp (maxSteps := 300000) (disch := omega) only [gs, gs2, gs3, ↓reduceIte, Nat.reduceEqDiff, Nat.mul_one, Nat.add_zero, Nat.zero_add, Nat.zero_mul, Int.toNat_natCast, Int.reduceToNat, Nat.reduceMul, Nat.reduceAdd, decide_true, decide_false, Bool.not_true, Bool.not_false, true_and, and_true, List.map_cons, List.map_nil, List.nil_append, List.cons_append, List.append_nil, Option.map_some, Option.bind_some, List.getElem?_cons_zero, List.getElem?_cons_succ, Bool.false_eq_true, not_true_eq_false, not_false_eq_true, List.contains_cons, List.contains_nil, Nat.reduceBEq, Bool.true_or, Bool.false_or, Bool.or_true, List.set_cons_zero, List.set_cons_succ, List.length_cons, List.length_nil, isLd, Bool.true_and, Bool.false_and, Bool.and_true, Bool.and_false]
    exact ⟨G, s1, hk.err (if_neg (fun x => by simpa using hb.2 x))⟩
  · have hn := hb.1 rfl
    have hR : narrV N = (narrA N, 0) := if_pos hn
    rw [hR] at hk
    have n5 := hn.2.2.2.2.2
    have k0 : rd G1 (some ⟨b1, 0, none⟩) = some (.int .i64 N.n) := hP.f0
    have k1 : rd G1 (some ⟨b1, 1, none⟩) = some (.int .i64 N.s) := hP.f1
    have k2 : rd G1 (some ⟨b1, 2, none⟩) = some (.int .i64 N.t) := hP.f2
    have k3 : rd G1 (some ⟨b1, 3, none⟩) = some (.slice A N.arcs.length c) := hP.f3
    simp (maxSteps := 300000) (disch := omega) only [gs, gs2, gs3, ↓reduceIte, Nat.reduceEqDiff, Nat.mul_one, Nat.add_zero, Nat.zero_add, Nat.zero_mul, Int.toNat_natCast, Int.reduceToNat, Nat.reduceMul, Nat.reduceAdd, decide_true, decide_false, Bool.not_true, Bool.not_false, true_and, and_true, List.map_cons, List.map_nil, List.nil_append, List.cons_append, List.append_nil, Option.map_some, Option.bind_some, List.getElem?_cons_zero, List.getElem?_cons_succ, Bool.false_eq_true, not_true_eq_false, not_false_eq_true, List.contains_cons, List.contains_nil, Nat.reduceBEq, Bool.true_or, Bool.false_or, Bool.or_true, List.set_cons_zero, List.set_cons_succ, List.length_cons, List.length_nil, isLd, Bool.true_and, Bool.false_and, Bool.and_true, Bool.and_false, k0, k1, k2, k3]
    refine spec_l19Greatest_ok hP hn fun G2 bF nF s2 hF => ?_
    have hfl := great_len hn
    have k0 := rd_sub s2 k0
    have k1 := rd_sub s2 k1
    have k2 := rd_sub s2 k2
    have k3 := rd_sub s2 k3
    simp (maxSteps := 300000) (disch := omega) only [gs, gs2, gs3, ↓reduceIte, Nat.reduceEqDiff, Nat.mul_one, Nat.add_zero, Nat.zero_add, Nat.zero_mul, Int.toNat_natCast, Int.reduceToNat, Nat.reduceMul, Nat.reduceAdd, decide_true, decide_false, Bool.not_true, Bool.not_false, true_and, and_true, List.map_cons, List.map_nil, List.nil_append, List.cons_append, List.append_nil, Option.map_some, Option.bind_some, List.getElem?_cons_zero, List.getElem?_cons_succ, Bool.false_eq_true, not_true_eq_false, not_false_eq_true, List.contains_cons, List.contains_nil, Nat.reduceBEq, Bool.true_or, Bool.false_or, Bool.or_true, List.set_cons_zero, List.set_cons_succ, List.length_cons, List.length_nil, isLd, Bool.true_and, Bool.false_and, Bool.and_true, Bool.and_false, k0, k1, k2, k3]
    rw [show Value.slice (some ⟨bF, 0, none⟩) N.arcs.length N.arcs.length = .slice (some ⟨bF, 0, none⟩) (greatV N).length (greatV N).length by rw [hfl]]
    refine spec_l19Excess_ok (hP.sub s2) (blk_ints hF) (cap_FlB hn (great_ok hn).2) ?_
    rw [show exc N.arcs (greatV N) N.t N.arcs.length = valN N from rfl]
    simp (maxSteps := 300000) (disch := omega) only [gs, gs2, gs3, ↓reduceIte, Nat.reduceEqDiff, Nat.mul_one, Nat.add_zero, Nat.zero_add, Nat.zero_mul, Int.toNat_natCast, Int.reduceToNat, Nat.reduceMul, Nat.reduceAdd, decide_true, decide_false, Bool.not_true, Bool.not_false, true_and, and_true, List.map_cons, List.map_nil, List.nil_append, List.cons_append, List.append_nil, Option.map_some, Option.bind_some, List.getElem?_cons_zero, List.getElem?_cons_succ, Bool.false_eq_true, not_true_eq_false, not_false_eq_true, List.contains_cons, List.contains_nil, Nat.reduceBEq, Bool.true_or, Bool.false_or, Bool.or_true, List.set_cons_zero, List.set_cons_succ, List.length_cons, List.length_nil, isLd, Bool.true_and, Bool.false_and, Bool.and_true, Bool.and_false, k0, k1, k2, k3, gBs]
    refine ⟨by intro v hv; simp at hv, fun b7 hb7 => ?_⟩
    have s7 := Sub.put hb7 ⟨[], true⟩
    have hA := (hP.arcs.sub s2)
    have s12 := s1.trans s2
    refine gLoop_intro (fun m T G' => ∃ (k : Nat) (Ap : Option Addr) (cp : Nat), T 1 = .pointer (some ⟨b1, 0, none⟩) ∧ T 4 = .int .i64 (valN N) ∧ T 5 = .slice Ap ((iota k).filter (narrB N)).length cp ∧ T 6 = .int .i64 k ∧ m + k = N.arcs.length ∧ k ≤ N.arcs.length ∧
      Own G' Ap cp (((iota k).filter (narrB N)).map I64) 1 ((iota k).filter (narrB N)).length ∧ Sub G2 G' ∧ Off G2 Ap)
      N.arcs.length ⟨0, _, _, by simp (maxSteps := 300000) (disch := omega) only [gs, gs2, gs3, ↓reduceIte, Nat.reduceEqDiff, Nat.mul_one, Nat.add_zero, Nat.zero_add, Nat.zero_mul, Int.toNat_natCast, Int.reduceToNat, Nat.reduceMul, Nat.reduceAdd, decide_true, decide_false, Bool.not_true, Bool.not_false, true_and, and_true, List.map_cons, List.map_nil, List.nil_append, List.cons_append, List.append_nil, Option.map_some, Option.bind_some, List.getElem?_cons_zero, List.getElem?_cons_succ, Bool.false_eq_true, not_true_eq_false, not_false_eq_true, List.contains_cons, List.contains_nil, Nat.reduceBEq, Bool.true_or, Bool.false_or, Bool.or_true, List.set_cons_zero, List.set_cons_succ, List.length_cons, List.length_nil, isLd, Bool.true_and, Bool.false_and, Bool.and_true, Bool.and_false], by simp (maxSteps := 300000) (disch := omega) only [gs, gs2, gs3, ↓reduceIte, Nat.reduceEqDiff, Nat.mul_one, Nat.add_zero, Nat.zero_add, Nat.zero_mul, Int.toNat_natCast, Int.reduceToNat, Nat.reduceMul, Nat.reduceAdd, decide_true, decide_false, Bool.not_true, Bool.not_false, true_and, and_true, List.map_cons, List.map_nil, List.nil_append, List.cons_append, List.append_nil, Option.map_some, Option.bind_some, List.getElem?_cons_zero, List.getElem?_cons_succ, Bool.false_eq_true, not_true_eq_false, not_false_eq_true, List.contains_cons, List.contains_nil, Nat.reduceBEq, Bool.true_or, Bool.false_or, Bool.or_true, List.set_cons_zero, List.set_cons_succ, List.length_cons, List.length_nil, isLd, Bool.true_and, Bool.false_and, Bool.and_true, Bool.and_false], by simp (maxSteps := 300000) (disch := omega) only [gs, gs2, gs3, ↓reduceIte, Nat.reduceEqDiff, Nat.mul_one, Nat.add_zero, Nat.zero_add, Nat.zero_mul, Int.toNat_natCast, Int.reduceToNat, Nat.reduceMul, Nat.reduceAdd, decide_true, decide_false, Bool.not_true, Bool.not_false, true_and, and_true, List.map_cons, List.map_nil, List.nil_append, List.cons_append, List.append_nil, Option.map_some, Option.bind_some, List.getElem?_cons_zero, List.getElem?_cons_succ, Bool.false_eq_true, not_true_eq_false, not_false_eq_true, List.contains_cons, List.contains_nil, Nat.reduceBEq, Bool.true_or, Bool.false_or, Bool.or_true, List.set_cons_zero, List.set_cons_succ, List.length_cons, List.length_nil, isLd, Bool.true_and, Bool.false_and, Bool.and_true, Bool.and_false] <;> rfl, by simp (maxSteps := 300000) (disch := omega) only [gs, gs2, gs3, ↓reduceIte, Nat.reduceEqDiff, Nat.mul_one, Nat.add_zero, Nat.zero_add, Nat.zero_mul, Int.toNat_natCast, Int.reduceToNat, Nat.reduceMul, Nat.reduceAdd, decide_true, decide_false, Bool.not_true, Bool.not_false, true_and, and_true, List.map_cons, List.map_nil, List.nil_append, List.cons_append, List.append_nil, Option.map_some, Option.bind_some, List.getElem?_cons_zero, List.getElem?_cons_succ, Bool.false_eq_true, not_true_eq_false, not_false_eq_true, List.contains_cons, List.contains_nil, Nat.reduceBEq, Bool.true_or, Bool.false_or, Bool.or_true, List.set_cons_zero, List.set_cons_succ, List.length_cons, List.length_nil, isLd, Bool.true_and, Bool.false_and, Bool.and_true, Bool.and_false] <;> rfl, by omega, by omega, (New.mk hb7 [] 1 0 rfl).fresh, s7, (New.mk hb7 [] 1 0 rfl).off⟩ ?_
    rintro m T G' ⟨k, Ap, cp, e1, e4, e5, e6, hm, hkm, hO, hS, hOff⟩
    have f0 := rd_sub hS k0
    have f1 := rd_sub hS k1
    have f2 := rd_sub hS k2
    have f3 := rd_sub hS k3
    simp (maxSteps := 300000) (disch := omega) only [gs, gs2, gs3, ↓reduceIte, Nat.reduceEqDiff, Nat.mul_one, Nat.add_zero, Nat.zero_add, Nat.zero_mul, Int.toNat_natCast, Int.reduceToNat, Nat.reduceMul, Nat.reduceAdd, decide_true, decide_false, Bool.not_true, Bool.not_false, true_and, and_true, List.map_cons, List.map_nil, List.nil_append, List.cons_append, List.append_nil, Option.map_some, Option.bind_some, List.getElem?_cons_zero, List.getElem?_cons_succ, Bool.false_eq_true, not_true_eq_false, not_false_eq_true, List.contains_cons, List.contains_nil, Nat.reduceBEq, Bool.true_or, Bool.false_or, Bool.or_true, List.set_cons_zero, List.set_cons_succ, List.length_cons, List.length_nil, isLd, Bool.true_and, Bool.false_and, Bool.and_true, Bool.and_false, e1, e4, e5, e6, f3]
    by_cases hkk : (k : Int) < N.arcs.length
    · have hlen : ((iota k).filter (narrB N)).length ≤ k := Nat.le_trans (List.length_filter_le _ _) (by rw [iota_len]; exact Nat.le_refl _)
      simp (maxSteps := 300000) (disch := omega) only [gs, gs2, gs3, ↓reduceIte, Nat.reduceEqDiff, Nat.mul_one, Nat.add_zero, Nat.zero_add, Nat.zero_mul, Int.toNat_natCast, Int.reduceToNat, Nat.reduceMul, Nat.reduceAdd, decide_true, decide_false, Bool.not_true, Bool.not_false, true_and, and_true, List.map_cons, List.map_nil, List.nil_append, List.cons_append, List.append_nil, Option.map_some, Option.bind_some, List.getElem?_cons_zero, List.getElem?_cons_succ, Bool.false_eq_true, not_true_eq_false, not_false_eq_true, List.contains_cons, List.contains_nil, Nat.reduceBEq, Bool.true_or, Bool.false_or, Bool.or_true, List.set_cons_zero, List.set_cons_succ, List.length_cons, List.length_nil, isLd, Bool.true_and, Bool.false_and, Bool.and_true, Bool.and_false, e1, e4, e5, e6, hkk, f0, f1, f2, f3]
      intro b9 hb9
      simp (maxSteps := 300000) (disch := omega) only [gs, gs2, gs3, ↓reduceIte, Nat.reduceEqDiff, Nat.mul_one, Nat.add_zero, Nat.zero_add, Nat.zero_mul, Int.toNat_natCast, Int.reduceToNat, Nat.reduceMul, Nat.reduceAdd, decide_true, decide_false, Bool.not_true, Bool.not_false, true_and, and_true, List.map_cons, List.map_nil, List.nil_append, List.cons_append, List.append_nil, Option.map_some, Option.bind_some, List.getElem?_cons_zero, List.getElem?_cons_succ, Bool.false_eq_true, not_true_eq_false, not_false_eq_true, List.contains_cons, List.contains_nil, Nat.reduceBEq, Bool.true_or, Bool.false_or, Bool.or_true, List.set_cons_zero, List.set_cons_succ, List.length_cons, List.length_nil, isLd, Bool.true_and, Bool.false_and, Bool.and_true, Bool.and_false, e1, e4, e5, e6, f0, f1, f2, f3]
      refine st_fresh (vs := netC N A c) rfl rfl rfl (by intro v hv; simp [netC] at hv; rcases hv with rfl | rfl | rfl | rfl <;> rfl) ?_
      have s9 := Sub.put hb9 ⟨netC N A c, true⟩
      have g3 := rd_sub s9 f3
      simp (maxSteps := 300000) (disch := omega) only [gs, gs2, gs3, ↓reduceIte, Nat.reduceEqDiff, Nat.mul_one, Nat.add_zero, Nat.zero_add, Nat.zero_mul, Int.toNat_natCast, Int.reduceToNat, Nat.reduceMul, Nat.reduceAdd, decide_true, decide_false, Bool.not_true, Bool.not_false, true_and, and_true, List.map_cons, List.map_nil, List.nil_append, List.cons_append, List.append_nil, Option.map_some, Option.bind_some, List.getElem?_cons_zero, List.getElem?_cons_succ, Bool.false_eq_true, not_true_eq_false, not_false_eq_true, List.contains_cons, List.contains_nil, Nat.reduceBEq, Bool.true_or, Bool.false_or, Bool.or_true, List.set_cons_zero, List.set_cons_succ, List.length_cons, List.length_nil, isLd, Bool.true_and, Bool.false_and, Bool.and_true, Bool.and_false, e1, e4, e5, e6, g3, gBs]
      refine ⟨by intro v hv; simp at hv, fun b10 hb10 => ?_⟩
      have s10 := Sub.put hb10 ⟨[], true⟩
      have g3' := rd_sub s10 g3
      simp (maxSteps := 300000) (disch := omega) only [gs, gs2, gs3, ↓reduceIte, Nat.reduceEqDiff, Nat.mul_one, Nat.add_zero, Nat.zero_add, Nat.zero_mul, Int.toNat_natCast, Int.reduceToNat, Nat.reduceMul, Nat.reduceAdd, decide_true, decide_false, Bool.not_true, Bool.not_false, true_and, and_true, List.map_cons, List.map_nil, List.nil_append, List.cons_append, List.append_nil, Option.map_some, Option.bind_some, List.getElem?_cons_zero, List.getElem?_cons_succ, Bool.false_eq_true, not_true_eq_false, not_false_eq_true, List.contains_cons, List.contains_nil, Nat.reduceBEq, Bool.true_or, Bool.false_or, Bool.or_true, List.set_cons_zero, List.set_cons_succ, List.length_cons, List.length_nil, isLd, Bool.true_and, Bool.false_and, Bool.and_true, Bool.and_false, List.flatMap_nil, e1, e4, e5, e6, g3']
      refine ap_new (New.mk hb10 [] 3 0 rfl) (Sub.refl _) (((hA.sub hS).sub s9).sub s10).cells (flat3_len N.arcs) (flat3_one N.arcs) rfl (by omega) (by omega) (by omega) fun G3 A3 c3 hN3 => ?_
      rw [List.nil_append, Nat.zero_add] at hN3
      simp (maxSteps := 300000) (disch := omega) only [gs, gs2, gs3, ↓reduceIte, Nat.reduceEqDiff, Nat.mul_one, Nat.add_zero, Nat.zero_add, Nat.zero_mul, Int.toNat_natCast, Int.reduceToNat, Nat.reduceMul, Nat.reduceAdd, decide_true, decide_false, Bool.not_true, Bool.not_false, true_and, and_true, List.map_cons, List.map_nil, List.nil_append, List.cons_append, List.append_nil, Option.map_some, Option.bind_some, List.getElem?_cons_zero, List.getElem?_cons_succ, Bool.false_eq_true, not_true_eq_false, not_false_eq_true, List.contains_cons, List.contains_nil, Nat.reduceBEq, Bool.true_or, Bool.false_or, Bool.or_true, List.set_cons_zero, List.set_cons_succ, List.length_cons, List.length_nil, isLd, Bool.true_and, Bool.false_and, Bool.and_true, Bool.and_false, e1, e4, e5, e6]
      obtain ⟨bC, r, rfl, hne, nC, h9, hC, hlC, hcC, s3⟩ := own_arcs (N := N) (by omega) hb9 hN3
      refine st_one h9 (by simp [netC]) rfl ?_
      have hset : (netC N A c).set 3 (.slice (some ⟨bC, 0, none⟩) N.arcs.length c3) = netC N (some ⟨bC, 0, none⟩) c3 := rfl
      rw [hset]
      have s4 := s3.skip (e := ⟨netC N (some ⟨bC, 0, none⟩) c3, true⟩) hb9
      have h9 := put_same G3 b9 ⟨netC N (some ⟨bC, 0, none⟩) c3, true⟩
      revert hC s4 h9
      generalize put G3 b9 ⟨netC N (some ⟨bC, 0, none⟩) c3, true⟩ = H1
      intro hC s4 h9
      have g3 : rd H1 (some ⟨b9, 3, none⟩) = some (.slice (some ⟨bC, 0, none⟩) N.arcs.length c3) := by simp only [rd, h9]; rfl
      simp (maxSteps := 300000) (disch := omega) only [gs, gs2, gs3, ↓reduceIte, Nat.reduceEqDiff, Nat.mul_one, Nat.add_zero, Nat.zero_add, Nat.zero_mul, Int.toNat_natCast, Int.reduceToNat, Nat.reduceMul, Nat.reduceAdd, decide_true, decide_false, Bool.not_true, Bool.not_false, true_and, and_true, List.map_cons, List.map_nil, List.nil_append, List.cons_append, List.append_nil, Option.map_some, Option.bind_some, List.getElem?_cons_zero, List.getElem?_cons_succ, Bool.false_eq_true, not_true_eq_false, not_false_eq_true, List.contains_cons, List.contains_nil, Nat.reduceBEq, Bool.true_or, Bool.false_or, Bool.or_true, List.set_cons_zero, List.set_cons_succ, List.length_cons, List.length_nil, isLd, Bool.true_and, Bool.false_and, Bool.and_true, Bool.and_false, e1, e4, e5, e6, g3]
      refine st_one hC (by omega) rfl ?_
      obtain ⟨s5, hP'⟩ := less_mem (k := k) (by omega) hne hb9 nC h9 hC hcC s4
      revert s5 hP'
      generalize put H1 bC ⟨(flat3 N.arcs ++ r).set (k * 3 + 2) (.int .i64 0), true⟩ = H2
      intro s5 hP'
      have hless := less_ok hn k
      have q2 : rd H2 (some ⟨b1, 2, none⟩) = some (.int .i64 N.t) := rd_sub s5 f2
      simp (maxSteps := 300000) (disch := omega) only [gs, gs2, gs3, ↓reduceIte, Nat.reduceEqDiff, Nat.mul_one, Nat.add_zero, Nat.zero_add, Nat.zero_mul, Int.toNat_natCast, Int.reduceToNat, Nat.reduceMul, Nat.reduceAdd, decide_true, decide_false, Bool.not_true, Bool.not_false, true_and, and_true, List.map_cons, List.map_nil, List.nil_append, List.cons_append, List.append_nil, Option.map_some, Option.bind_some, List.getElem?_cons_zero, List.getElem?_cons_succ, Bool.false_eq_true, not_true_eq_false, not_false_eq_true, List.contains_cons, List.contains_nil, Nat.reduceBEq, Bool.true_or, Bool.false_or, Bool.or_true, List.set_cons_zero, List.set_cons_succ, List.length_cons, List.length_nil, isLd, Bool.true_and, Bool.false_and, Bool.and_true, Bool.and_false, e1, e4, e5, e6, q2]
      refine spec_l19Greatest_ok hP' hless fun G4 bL nL s6 hL => ?_
      have hll := great_len hless
      have q2 := rd_sub s6 q2
      have s56 := s5.trans s6
      simp (maxSteps := 300000) (disch := omega) only [gs, gs2, gs3, ↓reduceIte, Nat.reduceEqDiff, Nat.mul_one, Nat.add_zero, Nat.zero_add, Nat.zero_mul, Int.toNat_natCast, Int.reduceToNat, Nat.reduceMul, Nat.reduceAdd, decide_true, decide_false, Bool.not_true, Bool.not_false, true_and, and_true, List.map_cons, List.map_nil, List.nil_append, List.cons_append, List.append_nil, Option.map_some, Option.bind_some, List.getElem?_cons_zero, List.getElem?_cons_succ, Bool.false_eq_true, not_true_eq_false, not_false_eq_true, List.contains_cons, List.contains_nil, Nat.reduceBEq, Bool.true_or, Bool.false_or, Bool.or_true, List.set_cons_zero, List.set_cons_succ, List.length_cons, List.length_nil, isLd, Bool.true_and, Bool.false_and, Bool.and_true, Bool.and_false, e1, e4, e5, e6, q2]
      rw [show Value.slice (some ⟨bL, 0, none⟩) (lessN N k).arcs.length (lessN N k).arcs.length = .slice (some ⟨bL, 0, none⟩) (greatV (lessN N k)).length (greatV (lessN N k)).length by rw [hll]]
      refine spec_l19Excess_ok (v := (lessN N k).t) (hP'.sub s6) (blk_ints hL) (cap_FlB hless (great_ok hless).2) ?_
      rw [show exc (lessN N k).arcs (greatV (lessN N k)) (lessN N k).t (lessN N k).arcs.length = valN (lessN N k) from rfl]
      simp (maxSteps := 300000) (disch := omega) only [gs, gs2, gs3, ↓reduceIte, Nat.reduceEqDiff, Nat.mul_one, Nat.add_zero, Nat.zero_add, Nat.zero_mul, Int.toNat_natCast, Int.reduceToNat, Nat.reduceMul, Nat.reduceAdd, decide_true, decide_false, Bool.not_true, Bool.not_false, true_and, and_true, List.map_cons, List.map_nil, List.nil_append, List.cons_append, List.append_nil, Option.map_some, Option.bind_some, List.getElem?_cons_zero, List.getElem?_cons_succ, Bool.false_eq_true, not_true_eq_false, not_false_eq_true, List.contains_cons, List.contains_nil, Nat.reduceBEq, Bool.true_or, Bool.false_or, Bool.or_true, List.set_cons_zero, List.set_cons_succ, List.length_cons, List.length_nil, isLd, Bool.true_and, Bool.false_and, Bool.and_true, Bool.and_false, e1, e4, e5, e6, q2]
      have hfl := filter_iota (narrB N) k
      by_cases hv : valN (lessN N k) < valN N
      · rw [if_pos (by unfold narrB; rw [Int.toNat_natCast]; simpa using hv)] at hfl
        simp (maxSteps := 300000) (disch := omega) only [gs, gs2, gs3, ↓reduceIte, Nat.reduceEqDiff, Nat.mul_one, Nat.add_zero, Nat.zero_add, Nat.zero_mul, Int.toNat_natCast, Int.reduceToNat, Nat.reduceMul, Nat.reduceAdd, decide_true, decide_false, Bool.not_true, Bool.not_false, true_and, and_true, List.map_cons, List.map_nil, List.nil_append, List.cons_append, List.append_nil, Option.map_some, Option.bind_some, List.getElem?_cons_zero, List.getElem?_cons_succ, Bool.false_eq_true, not_true_eq_false, not_false_eq_true, List.contains_cons, List.contains_nil, Nat.reduceBEq, Bool.true_or, Bool.false_or, Bool.or_true, List.set_cons_zero, List.set_cons_succ, List.length_cons, List.length_nil, isLd, Bool.true_and, Bool.false_and, Bool.and_true, Bool.and_false, e1, e4, e5, e6, hv, gBs]
        refine ⟨by intro v hv; simp at hv; subst hv; rfl, fun b11 hb11 => ?_⟩
        refine ap_own ((hO.sub s56).sub (Sub.put hb11 _)) (cells_one [.int .i64 (k : Int)] true) (by rfl) (by intro v hv; simp at hv; subst hv; rfl) rfl (by omega) (by omega) (by omega) fun G'' A' c' hO' hG' => ?_
        simp (maxSteps := 300000) (disch := omega) only [gs, gs2, gs3, ↓reduceIte, Nat.reduceEqDiff, Nat.mul_one, Nat.add_zero, Nat.zero_add, Nat.zero_mul, Int.toNat_natCast, Int.reduceToNat, Nat.reduceMul, Nat.reduceAdd, decide_true, decide_false, Bool.not_true, Bool.not_false, true_and, and_true, List.map_cons, List.map_nil, List.nil_append, List.cons_append, List.append_nil, Option.map_some, Option.bind_some, List.getElem?_cons_zero, List.getElem?_cons_succ, Bool.false_eq_true, not_true_eq_false, not_false_eq_true, List.contains_cons, List.contains_nil, Nat.reduceBEq, Bool.true_or, Bool.false_or, Bool.or_true, List.set_cons_zero, List.set_cons_succ, List.length_cons, List.length_nil, isLd, Bool.true_and, Bool.false_and, Bool.and_true, Bool.and_false, e1, e4, e5, e6]
        obtain ⟨t1, t2⟩ := hG' G2 ((hS.trans s56).trans (Sub.put hb11 _)) hOff
        exact ⟨m - 1, by omega, _, Sub.refl _, k + 1, A', c', by rw [hfl]; simp, rfl, by omega, by omega, by rw [hfl]; exact hO'.cast (by simp [I64]) (by simp), t1, t2⟩
      · rw [if_neg (by unfold narrB; rw [Int.toNat_natCast]; simpa using hv)] at hfl
        simp (maxSteps := 300000) (disch := omega) only [gs, gs2, gs3, ↓reduceIte, Nat.reduceEqDiff, Nat.mul_one, Nat.add_zero, Nat.zero_add, Nat.zero_mul, Int.toNat_natCast, Int.reduceToNat, Nat.reduceMul, Nat.reduceAdd, decide_true, decide_false, Bool.not_true, Bool.not_false, true_and, and_true, List.map_cons, List.map_nil, List.nil_append, List.cons_append, List.append_nil, Option.map_some, Option.bind_some, List.getElem?_cons_zero, List.getElem?_cons_succ, Bool.false_eq_true, not_true_eq_false, not_false_eq_true, List.contains_cons, List.contains_nil, Nat.reduceBEq, Bool.true_or, Bool.false_or, Bool.or_true, List.set_cons_zero, List.set_cons_succ, List.length_cons, List.length_nil, isLd, Bool.true_and, Bool.false_and, Bool.and_true, Bool.and_false, e1, e4, e5, e6, hv]
        exact ⟨m - 1, by omega, _, Sub.refl _, k + 1, Ap, cp, by rw [hfl], rfl, by omega, by omega, by rw [hfl]; exact hO.sub s56, hS.trans s56, hOff⟩
    · simp (maxSteps := 300000) (disch := omega) only [gs, gs2, gs3, ↓reduceIte, Nat.reduceEqDiff, Nat.mul_one, Nat.add_zero, Nat.zero_add, Nat.zero_mul, Int.toNat_natCast, Int.reduceToNat, Nat.reduceMul, Nat.reduceAdd, decide_true, decide_false, Bool.not_true, Bool.not_false, true_and, and_true, List.map_cons, List.map_nil, List.nil_append, List.cons_append, List.append_nil, Option.map_some, Option.bind_some, List.getElem?_cons_zero, List.getElem?_cons_succ, Bool.false_eq_true, not_true_eq_false, not_false_eq_true, List.contains_cons, List.contains_nil, Nat.reduceBEq, Bool.true_or, Bool.false_or, Bool.or_true, List.set_cons_zero, List.set_cons_succ, List.length_cons, List.length_nil, isLd, Bool.true_and, Bool.false_and, Bool.and_true, Bool.and_false, e1, e4, e5, e6, hkk]
      obtain rfl : k = N.arcs.length := by omega
      obtain ⟨G'', s3, hN⟩ := hO.new (s12.trans hS) (hOff.mono s12)
      exact ⟨G'', s3, hk _ _ _ hN⟩
theorem law_NarrowArcs {G : GH} {v0 : Value} {x0 : Net} (h0 : NetworkV G v0 x0) : GC Try.prog 24 [v0] G fun v _ => v = .bool true := by
  obtain ⟨A0, c0, rfl, h0, e0, l0, rn0, rs0, rt0⟩ := h0
  refine c_laws_FnExactNarrowArcs_i (by simp) ?_
  unfold netV netC
  simp (maxSteps := 300000) (disch := omega) only [gs, gs2, gs3, ↓reduceIte, Nat.reduceEqDiff, Nat.mul_one, Nat.add_zero, Nat.zero_add, Nat.zero_mul, Int.toNat_natCast, Int.reduceToNat, Nat.reduceMul, Nat.reduceAdd, decide_true, decide_false, Bool.not_true, Bool.not_false, true_and, and_true, List.map_cons, List.map_nil, List.nil_append, List.cons_append, List.append_nil, Option.map_some, Option.bind_some, List.getElem?_cons_zero, List.getElem?_cons_succ, Bool.false_eq_true, not_true_eq_false, not_false_eq_true, List.contains_cons, List.contains_nil, Nat.reduceBEq, Bool.true_or, Bool.false_or, Bool.or_true, List.set_cons_zero, List.set_cons_succ, List.length_cons, List.length_nil, isLd, Bool.true_and, Bool.false_and, Bool.and_true, Bool.and_false]
  have s_b := Sub.refl G
  intro p0 hp0
  generalize hG1 : put G p0 ⟨[.int .i64 x0.n, .int .i64 x0.s, .int .i64 x0.t, .slice A0 x0.arcs.length c0], true⟩ = G1
  have t1 : Sub G G1 := hG1 ▸ Sub.put hp0 _
  have h0 := h0.sub t1
  have fa0_0 : rd G1 (some ⟨p0, 0, none⟩) = some (.int .i64 x0.n) := by rw [← hG1]; exact rd_box _ _ _ 0 _ rfl
  have fa0_1 : rd G1 (some ⟨p0, 1, none⟩) = some (.int .i64 x0.s) := by rw [← hG1]; exact rd_box _ _ _ 1 _ rfl
  have fa0_2 : rd G1 (some ⟨p0, 2, none⟩) = some (.int .i64 x0.t) := by rw [← hG1]; exact rd_box _ _ _ 2 _ rfl
  have fa0_3 : rd G1 (some ⟨p0, 3, none⟩) = some (.slice A0 x0.arcs.length c0) := by rw [← hG1]; exact rd_box _ _ _ 3 _ rfl
  have s_b := Sub.refl G1
  have fa0_0c := rd_sub s_b fa0_0
  have fa0_1c := rd_sub s_b fa0_1
  have fa0_2c := rd_sub s_b fa0_2
  have fa0_3c := rd_sub s_b fa0_3
  simp (maxSteps := 300000) (disch := omega) only [gs, gs2, gs3, ↓reduceIte, Nat.reduceEqDiff, Nat.mul_one, Nat.add_zero, Nat.zero_add, Nat.zero_mul, Int.toNat_natCast, Int.reduceToNat, Nat.reduceMul, Nat.reduceAdd, decide_true, decide_false, Bool.not_true, Bool.not_false, true_and, and_true, List.map_cons, List.map_nil, List.nil_append, List.cons_append, List.append_nil, Option.map_some, Option.bind_some, List.getElem?_cons_zero, List.getElem?_cons_succ, Bool.false_eq_true, not_true_eq_false, not_false_eq_true, List.contains_cons, List.contains_nil, Nat.reduceBEq, Bool.true_or, Bool.false_or, Bool.or_true, List.set_cons_zero, List.set_cons_succ, List.length_cons, List.length_nil, isLd, Bool.true_and, Bool.false_and, Bool.and_true, Bool.and_false, fa0_0c, fa0_1c, fa0_2c, fa0_3c]
  refine laws_szNetwork_ok (N := x0) ⟨by omega, by omega⟩ (by omega) fun q0 q0a q0b q0c => ?_
  simp (maxSteps := 300000) (disch := omega) only [gs, gs2, gs3, ↓reduceIte, Nat.reduceEqDiff, Nat.mul_one, Nat.add_zero, Nat.zero_add, Nat.zero_mul, Int.toNat_natCast, Int.reduceToNat, Nat.reduceMul, Nat.reduceAdd, decide_true, decide_false, Bool.not_true, Bool.not_false, true_and, and_true, List.map_cons, List.map_nil, List.nil_append, List.cons_append, List.append_nil, Option.map_some, Option.bind_some, List.getElem?_cons_zero, List.getElem?_cons_succ, Bool.false_eq_true, not_true_eq_false, not_false_eq_true, List.contains_cons, List.contains_nil, Nat.reduceBEq, Bool.true_or, Bool.false_or, Bool.or_true, List.set_cons_zero, List.set_cons_succ, List.length_cons, List.length_nil, isLd, Bool.true_and, Bool.false_and, Bool.and_true, Bool.and_false, fa0_0c, fa0_1c, fa0_2c, fa0_3c]
  by_cases g0 : q0 < 0
  · simp (maxSteps := 300000) (disch := omega) only [gs, gs2, gs3, ↓reduceIte, Nat.reduceEqDiff, Nat.mul_one, Nat.add_zero, Nat.zero_add, Nat.zero_mul, Int.toNat_natCast, Int.reduceToNat, Nat.reduceMul, Nat.reduceAdd, decide_true, decide_false, Bool.not_true, Bool.not_false, true_and, and_true, List.map_cons, List.map_nil, List.nil_append, List.cons_append, List.append_nil, Option.map_some, Option.bind_some, List.getElem?_cons_zero, List.getElem?_cons_succ, Bool.false_eq_true, not_true_eq_false, not_false_eq_true, List.contains_cons, List.contains_nil, Nat.reduceBEq, Bool.true_or, Bool.false_or, Bool.or_true, List.set_cons_zero, List.set_cons_succ, List.length_cons, List.length_nil, isLd, Bool.true_and, Bool.false_and, Bool.and_true, Bool.and_false, g0, fa0_0c, fa0_1c, fa0_2c, fa0_3c]
  simp (maxSteps := 300000) (disch := omega) only [gs, gs2, gs3, ↓reduceIte, Nat.reduceEqDiff, Nat.mul_one, Nat.add_zero, Nat.zero_add, Nat.zero_mul, Int.toNat_natCast, Int.reduceToNat, Nat.reduceMul, Nat.reduceAdd, decide_true, decide_false, Bool.not_true, Bool.not_false, true_and, and_true, List.map_cons, List.map_nil, List.nil_append, List.cons_append, List.append_nil, Option.map_some, Option.bind_some, List.getElem?_cons_zero, List.getElem?_cons_succ, Bool.false_eq_true, not_true_eq_false, not_false_eq_true, List.contains_cons, List.contains_nil, Nat.reduceBEq, Bool.true_or, Bool.false_or, Bool.or_true, List.set_cons_zero, List.set_cons_succ, List.length_cons, List.length_nil, isLd, Bool.true_and, Bool.false_and, Bool.and_true, Bool.and_false, g0, fa0_0c, fa0_1c, fa0_2c, fa0_3c]
  refine laws_toNetwork_new (N := x0) (h0.sub s_b) (by omega) fun As0 G2 n_s0 => ?_
  have o_s0 := n_s0.own
  have t_s0 := n_s0.sub
  have s_b := s_b.trans t_s0
  have fa0_0c := rd_sub s_b fa0_0
  have fa0_1c := rd_sub s_b fa0_1
  have fa0_2c := rd_sub s_b fa0_2
  have fa0_3c := rd_sub s_b fa0_3
  have s_s0 := Sub.rest G1 G2
  simp (maxSteps := 300000) (disch := omega) only [gs, gs2, gs3, ↓reduceIte, Nat.reduceEqDiff, Nat.mul_one, Nat.add_zero, Nat.zero_add, Nat.zero_mul, Int.toNat_natCast, Int.reduceToNat, Nat.reduceMul, Nat.reduceAdd, decide_true, decide_false, Bool.not_true, Bool.not_false, true_and, and_true, List.map_cons, List.map_nil, List.nil_append, List.cons_append, List.append_nil, Option.map_some, Option.bind_some, List.getElem?_cons_zero, List.getElem?_cons_succ, Bool.false_eq_true, not_true_eq_false, not_false_eq_true, List.contains_cons, List.contains_nil, Nat.reduceBEq, Bool.true_or, Bool.false_or, Bool.or_true, List.set_cons_zero, List.set_cons_succ, List.length_cons, List.length_nil, isLd, Bool.true_and, Bool.false_and, Bool.and_true, Bool.and_false, fa0_0c, fa0_1c, fa0_2c, fa0_3c]
  have hlen : (narrV x0).1.length ≤ 2 ^ 20 := narrV_len x0
  refine spec_NarrowArcs_ok (o_s0.sub s_s0).t3 rn0 (by omega) fun G3 Aw cw n_w => ?_
  have o_w := n_w.own
  have f_b_w : Off G1 Aw := n_w.off.mono s_b
  have t_w := n_w.sub
  have s_b := s_b.trans t_w
  have fa0_0c := rd_sub s_b fa0_0
  have fa0_1c := rd_sub s_b fa0_1
  have fa0_2c := rd_sub s_b fa0_2
  have fa0_3c := rd_sub s_b fa0_3
  have s_w : Sub (rest G2 G3) G3 := Sub.rest _ _
  simp (maxSteps := 300000) (disch := omega) only [gs, gs2, gs3, ↓reduceIte, Nat.reduceEqDiff, Nat.mul_one, Nat.add_zero, Nat.zero_add, Nat.zero_mul, Int.toNat_natCast, Int.reduceToNat, Nat.reduceMul, Nat.reduceAdd, decide_true, decide_false, Bool.not_true, Bool.not_false, true_and, and_true, List.map_cons, List.map_nil, List.nil_append, List.cons_append, List.append_nil, Option.map_some, Option.bind_some, List.getElem?_cons_zero, List.getElem?_cons_succ, Bool.false_eq_true, not_true_eq_false, not_false_eq_true, List.contains_cons, List.contains_nil, Nat.reduceBEq, Bool.true_or, Bool.false_or, Bool.or_true, List.set_cons_zero, List.set_cons_succ, List.length_cons, List.length_nil, isLd, Bool.true_and, Bool.false_and, Bool.and_true, Bool.and_false, fa0_0c, fa0_1c, fa0_2c, fa0_3c]
  refine laws_toNetwork_new (N := x0) (h0.sub s_b) (by omega) fun Ai0 G4 n_i0 => ?_
  have o_i0 := n_i0.own
  have f_b_i0 : Off G1 Ai0 := n_i0.off.mono s_b
  have f_w_i0 : Off (rest G2 G3) Ai0 := n_i0.off.mono s_w
  have f_i0_w : Off (rest G3 G4) Aw := Off.rest (own_ne (o_w.sub s_w))
  have t_i0 := n_i0.sub
  have s_b := s_b.trans t_i0
  have s_w := s_w.trans t_i0
  have fa0_0c := rd_sub s_b fa0_0
  have fa0_1c := rd_sub s_b fa0_1
  have fa0_2c := rd_sub s_b fa0_2
  have fa0_3c := rd_sub s_b fa0_3
  have s_i0 : Sub (rest G3 G4) G4 := Sub.rest _ _
  simp (maxSteps := 300000) (disch := omega) only [gs, gs2, gs3, ↓reduceIte, Nat.reduceEqDiff, Nat.mul_one, Nat.add_zero, Nat.zero_add, Nat.zero_mul, Int.toNat_natCast, Int.reduceToNat, Nat.reduceMul, Nat.reduceAdd, decide_true, decide_false, Bool.not_true, Bool.not_false, true_and, and_true, List.map_cons, List.map_nil, List.nil_append, List.cons_append, List.append_nil, Option.map_some, Option.bind_some, List.getElem?_cons_zero, List.getElem?_cons_succ, Bool.false_eq_true, not_true_eq_false, not_false_eq_true, List.contains_cons, List.contains_nil, Nat.reduceBEq, Bool.true_or, Bool.false_or, Bool.or_true, List.set_cons_zero, List.set_cons_succ, List.length_cons, List.length_nil, isLd, Bool.true_and, Bool.false_and, Bool.and_true, Bool.and_false, fa0_0c, fa0_1c, fa0_2c, fa0_3c]
  intro p1 hp1
  simp (maxSteps := 300000) (disch := omega) only [gs, gs2, gs3, ↓reduceIte, Nat.reduceEqDiff, Nat.mul_one, Nat.add_zero, Nat.zero_add, Nat.zero_mul, Int.toNat_natCast, Int.reduceToNat, Nat.reduceMul, Nat.reduceAdd, decide_true, decide_false, Bool.not_true, Bool.not_false, true_and, and_true, List.map_cons, List.map_nil, List.nil_append, List.cons_append, List.append_nil, Option.map_some, Option.bind_some, List.getElem?_cons_zero, List.getElem?_cons_succ, Bool.false_eq_true, not_true_eq_false, not_false_eq_true, List.contains_cons, List.contains_nil, Nat.reduceBEq, Bool.true_or, Bool.false_or, Bool.or_true, List.set_cons_zero, List.set_cons_succ, List.length_cons, List.length_nil, isLd, Bool.true_and, Bool.false_and, Bool.and_true, Bool.and_false, fa0_0c, fa0_1c, fa0_2c, fa0_3c]
  refine st_fresh (vs := [.int .i64 x0.n, .int .i64 x0.s, .int .i64 x0.t, .slice Ai0 x0.arcs.length x0.arcs.length]) rfl rfl rfl (by intro v hv; simp only [List.mem_cons, List.not_mem_nil, or_false] at hv; rcases hv with rfl | rfl | rfl | rfl <;> rfl) ?_
  have b_x0 := box_rest (cs := [.int .i64 x0.n, .int .i64 x0.s, .int .i64 x0.t, .slice Ai0 x0.arcs.length x0.arcs.length]) hp1
  have f_x0_w : Off (rest G4 (put G4 p1 ⟨[.int .i64 x0.n, .int .i64 x0.s, .int .i64 x0.t, .slice Ai0 x0.arcs.length x0.arcs.length], true⟩)) Aw := Off.rest (own_ne (o_w.sub s_w))
  have f_x0_i0 : Off (rest G4 (put G4 p1 ⟨[.int .i64 x0.n, .int .i64 x0.s, .int .i64 x0.t, .slice Ai0 x0.arcs.length x0.arcs.length], true⟩)) Ai0 := Off.rest (own_ne (o_i0.sub s_i0))
  have t_x0 := Sub.put hp1 ⟨[.int .i64 x0.n, .int .i64 x0.s, .int .i64 x0.t, .slice Ai0 x0.arcs.length x0.arcs.length], true⟩
  have s_x0 : Sub (rest G4 (put G4 p1 ⟨[.int .i64 x0.n, .int .i64 x0.s, .int .i64 x0.t, .slice Ai0 x0.arcs.length x0.arcs.length], true⟩)) _ := Sub.rest _ (put G4 p1 ⟨[.int .i64 x0.n, .int .i64 x0.s, .int .i64 x0.t, .slice Ai0 x0.arcs.length x0.arcs.length], true⟩)
  have fi0_0 := b_x0 0 _ rfl
  have fi0_1 := b_x0 1 _ rfl
  have fi0_2 := b_x0 2 _ rfl
  have fi0_3 := b_x0 3 _ rfl
  revert b_x0 f_x0_w f_x0_i0 t_x0 s_x0 fi0_0 fi0_1 fi0_2 fi0_3
  generalize rest G4 (put G4 p1 ⟨[.int .i64 x0.n, .int .i64 x0.s, .int .i64 x0.t, .slice Ai0 x0.arcs.length x0.arcs.length], true⟩) = Hx0
  generalize put G4 p1 ⟨[.int .i64 x0.n, .int .i64 x0.s, .int .i64 x0.t, .slice Ai0 x0.arcs.length x0.arcs.length], true⟩ = G5
  intro b_x0 f_x0_w f_x0_i0 t_x0 s_x0 fi0_0 fi0_1 fi0_2 fi0_3
  have s_b := s_b.trans t_x0
  have s_w := s_w.trans t_x0
  have s_i0 := s_i0.trans t_x0
  have fa0_0c := rd_sub s_b fa0_0
  have fa0_1c := rd_sub s_b fa0_1
  have fa0_2c := rd_sub s_b fa0_2
  have fa0_3c := rd_sub s_b fa0_3
  have fi0_0c := rd_sub s_x0 fi0_0
  have fi0_1c := rd_sub s_x0 fi0_1
  have fi0_2c := rd_sub s_x0 fi0_2
  have fi0_3c := rd_sub s_x0 fi0_3
  simp (maxSteps := 300000) (disch := omega) only [gs, gs2, gs3, ↓reduceIte, Nat.reduceEqDiff, Nat.mul_one, Nat.add_zero, Nat.zero_add, Nat.zero_mul, Int.toNat_natCast, Int.reduceToNat, Nat.reduceMul, Nat.reduceAdd, decide_true, decide_false, Bool.not_true, Bool.not_false, true_and, and_true, List.map_cons, List.map_nil, List.nil_append, List.cons_append, List.append_nil, Option.map_some, Option.bind_some, List.getElem?_cons_zero, List.getElem?_cons_succ, Bool.false_eq_true, not_true_eq_false, not_false_eq_true, List.contains_cons, List.contains_nil, Nat.reduceBEq, Bool.true_or, Bool.false_or, Bool.or_true, List.set_cons_zero, List.set_cons_succ, List.length_cons, List.length_nil, isLd, Bool.true_and, Bool.false_and, Bool.and_true, Bool.and_false, fa0_0c, fa0_1c, fa0_2c, fa0_3c, fi0_0c, fi0_1c, fi0_2c, fi0_3c]
  refine impl_NarrowArcs_ok (o_i0.sub s_i0).t3 rn0 (by omega) fun G6 Ag cg n_g => ?_
  have o_g := n_g.own
  have f_b_g : Off G1 Ag := n_g.off.mono s_b
  have f_w_g : Off (rest G2 G3) Ag := n_g.off.mono s_w
  have f_i0_g : Off (rest G3 G4) Ag := n_g.off.mono s_i0
  have f_x0_g : Off Hx0 Ag := n_g.off.mono s_x0
  have f_g_w : Off (rest G5 G6) Aw := Off.rest (own_ne (o_w.sub s_w))
  have f_g_i0 : Off (rest G5 G6) Ai0 := Off.rest (own_ne (o_i0.sub s_i0))
  have t_g := n_g.sub
  have s_b := s_b.trans t_g
  have s_w := s_w.trans t_g
  have s_i0 := s_i0.trans t_g
  have s_x0 := s_x0.trans t_g
  have fa0_0c := rd_sub s_b fa0_0
  have fa0_1c := rd_sub s_b fa0_1
  have fa0_2c := rd_sub s_b fa0_2
  have fa0_3c := rd_sub s_b fa0_3
  have fi0_0c := rd_sub s_x0 fi0_0
  have fi0_1c := rd_sub s_x0 fi0_1
  have fi0_2c := rd_sub s_x0 fi0_2
  have fi0_3c := rd_sub s_x0 fi0_3
  have s_g : Sub (rest G5 G6) G6 := Sub.rest _ _
  simp (maxSteps := 300000) (disch := omega) only [gs, gs2, gs3, ↓reduceIte, Nat.reduceEqDiff, Nat.mul_one, Nat.add_zero, Nat.zero_add, Nat.zero_mul, Int.toNat_natCast, Int.reduceToNat, Nat.reduceMul, Nat.reduceAdd, decide_true, decide_false, Bool.not_true, Bool.not_false, true_and, and_true, List.map_cons, List.map_nil, List.nil_append, List.cons_append, List.append_nil, Option.map_some, Option.bind_some, List.getElem?_cons_zero, List.getElem?_cons_succ, Bool.false_eq_true, not_true_eq_false, not_false_eq_true, List.contains_cons, List.contains_nil, Nat.reduceBEq, Bool.true_or, Bool.false_or, Bool.or_true, List.set_cons_zero, List.set_cons_succ, List.length_cons, List.length_nil, isLd, Bool.true_and, Bool.false_and, Bool.and_true, Bool.and_false, fa0_0c, fa0_1c, fa0_2c, fa0_3c, fi0_0c, fi0_1c, fi0_2c, fi0_3c]
  refine laws_eqInt64S_ok (o_g.sub s_g).ints (o_w.sub s_w).ints (by omega) ?_
  simp (maxSteps := 300000) (disch := omega) only [gs, gs2, gs3, ↓reduceIte, Nat.reduceEqDiff, Nat.mul_one, Nat.add_zero, Nat.zero_add, Nat.zero_mul, Int.toNat_natCast, Int.reduceToNat, Nat.reduceMul, Nat.reduceAdd, decide_true, decide_false, Bool.not_true, Bool.not_false, true_and, and_true, List.map_cons, List.map_nil, List.nil_append, List.cons_append, List.append_nil, Option.map_some, Option.bind_some, List.getElem?_cons_zero, List.getElem?_cons_succ, Bool.false_eq_true, not_true_eq_false, not_false_eq_true, List.contains_cons, List.contains_nil, Nat.reduceBEq, Bool.true_or, Bool.false_or, Bool.or_true, List.set_cons_zero, List.set_cons_succ, List.length_cons, List.length_nil, isLd, Bool.true_and, Bool.false_and, Bool.and_true, Bool.and_false, eq_self, fa0_0c, fa0_1c, fa0_2c, fa0_3c, fi0_0c, fi0_1c, fi0_2c, fi0_3c]
  refine laws_toNetwork_new (N := x0) (h0.sub s_b) (by omega) fun Ae0 G7 n_e0 => ?_
  have o_e0 := n_e0.own
  have t_e0 := n_e0.sub
  have s_b := s_b.trans t_e0
  have s_w := s_w.trans t_e0
  have s_i0 := s_i0.trans t_e0
  have s_x0 := s_x0.trans t_e0
  have s_g := s_g.trans t_e0
  have fa0_0c := rd_sub s_b fa0_0
  have fa0_1c := rd_sub s_b fa0_1
  have fa0_2c := rd_sub s_b fa0_2
  have fa0_3c := rd_sub s_b fa0_3
  have fi0_0c := rd_sub s_x0 fi0_0
  have fi0_1c := rd_sub s_x0 fi0_1
  have fi0_2c := rd_sub s_x0 fi0_2
  have fi0_3c := rd_sub s_x0 fi0_3
  have s_e0 := Sub.rest G6 G7
  simp (maxSteps := 300000) (disch := omega) only [gs, gs2, gs3, ↓reduceIte, Nat.reduceEqDiff, Nat.mul_one, Nat.add_zero, Nat.zero_add, Nat.zero_mul, Int.toNat_natCast, Int.reduceToNat, Nat.reduceMul, Nat.reduceAdd, decide_true, decide_false, Bool.not_true, Bool.not_false, true_and, and_true, List.map_cons, List.map_nil, List.nil_append, List.cons_append, List.append_nil, Option.map_some, Option.bind_some, List.getElem?_cons_zero, List.getElem?_cons_succ, Bool.false_eq_true, not_true_eq_false, not_false_eq_true, List.contains_cons, List.contains_nil, Nat.reduceBEq, Bool.true_or, Bool.false_or, Bool.or_true, List.set_cons_zero, List.set_cons_succ, List.length_cons, List.length_nil, isLd, Bool.true_and, Bool.false_and, Bool.and_true, Bool.and_false, fa0_0c, fa0_1c, fa0_2c, fa0_3c, fi0_0c, fi0_1c, fi0_2c, fi0_3c]
  refine laws_eqNetwork_ok (N := x0) (M := x0) (o_i0.sub s_i0).t3 (o_e0.sub s_e0).t3 (by omega) fun b hb => ?_
  obtain rfl : b = true := hb.2 rfl
  simp (maxSteps := 300000) (disch := omega) only [gs, gs2, gs3, ↓reduceIte, Nat.reduceEqDiff, Nat.mul_one, Nat.add_zero, Nat.zero_add, Nat.zero_mul, Int.toNat_natCast, Int.reduceToNat, Nat.reduceMul, Nat.reduceAdd, decide_true, decide_false, Bool.not_true, Bool.not_false, true_and, and_true, List.map_cons, List.map_nil, List.nil_append, List.cons_append, List.append_nil, Option.map_some, Option.bind_some, List.getElem?_cons_zero, List.getElem?_cons_succ, Bool.false_eq_true, not_true_eq_false, not_false_eq_true, List.contains_cons, List.contains_nil, Nat.reduceBEq, Bool.true_or, Bool.false_or, Bool.or_true, List.set_cons_zero, List.set_cons_succ, List.length_cons, List.length_nil, isLd, Bool.true_and, Bool.false_and, Bool.and_true, Bool.and_false, fa0_0c, fa0_1c, fa0_2c, fa0_3c, fi0_0c, fi0_1c, fi0_2c, fi0_3c]
  refine laws_markNetwork_ok (N := x0) (o_i0.sub s_i0) (by omega) (by omega) fun G8 k0 k0a k0b u0 => ?_
  have s_b := u0.sub s_b f_b_i0
  have s_w := u0.sub s_w f_w_i0
  have s_x0 := u0.sub s_x0 f_x0_i0
  have s_g := u0.sub s_g f_g_i0
  have fa0_0c := rd_sub s_b fa0_0
  have fa0_1c := rd_sub s_b fa0_1
  have fa0_2c := rd_sub s_b fa0_2
  have fa0_3c := rd_sub s_b fa0_3
  have fi0_0c := rd_sub s_x0 fi0_0
  have fi0_1c := rd_sub s_x0 fi0_1
  have fi0_2c := rd_sub s_x0 fi0_2
  have fi0_3c := rd_sub s_x0 fi0_3
  simp (maxSteps := 300000) (disch := omega) only [gs, gs2, gs3, ↓reduceIte, Nat.reduceEqDiff, Nat.mul_one, Nat.add_zero, Nat.zero_add, Nat.zero_mul, Int.toNat_natCast, Int.reduceToNat, Nat.reduceMul, Nat.reduceAdd, decide_true, decide_false, Bool.not_true, Bool.not_false, true_and, and_true, List.map_cons, List.map_nil, List.nil_append, List.cons_append, List.append_nil, Option.map_some, Option.bind_some, List.getElem?_cons_zero, List.getElem?_cons_succ, Bool.false_eq_true, not_true_eq_false, not_false_eq_true, List.contains_cons, List.contains_nil, Nat.reduceBEq, Bool.true_or, Bool.false_or, Bool.or_true, List.set_cons_zero, List.set_cons_succ, List.length_cons, List.length_nil, isLd, Bool.true_and, Bool.false_and, Bool.and_true, Bool.and_false, fa0_0c, fa0_1c, fa0_2c, fa0_3c, fi0_0c, fi0_1c, fi0_2c, fi0_3c]
  simp (maxSteps := 300000) (disch := omega) only [gs, gs2, gs3, ↓reduceIte, Nat.reduceEqDiff, Nat.mul_one, Nat.add_zero, Nat.zero_add, Nat.zero_mul, Int.toNat_natCast, Int.reduceToNat, Nat.reduceMul, Nat.reduceAdd, decide_true, decide_false, Bool.not_true, Bool.not_false, true_and, and_true, List.map_cons, List.map_nil, List.nil_append, List.cons_append, List.append_nil, Option.map_some, Option.bind_some, List.getElem?_cons_zero, List.getElem?_cons_succ, Bool.false_eq_true, not_true_eq_false, not_false_eq_true, List.contains_cons, List.contains_nil, Nat.reduceBEq, Bool.true_or, Bool.false_or, Bool.or_true, List.set_cons_zero, List.set_cons_succ, List.length_cons, List.length_nil, isLd, Bool.true_and, Bool.false_and, Bool.and_true, Bool.and_false, show ∀ z : Int, 0 ≤ z → (z < 0) = False from fun z hz => eq_false (by omega), fa0_0c, fa0_1c, fa0_2c, fa0_3c, fi0_0c, fi0_1c, fi0_2c, fi0_3c]
  refine laws_eqInt64S_ok (o_g.sub s_g).ints (o_w.sub s_w).ints (by omega) ?_
  simp (maxSteps := 300000) (disch := omega) only [gs, gs2, gs3, ↓reduceIte, Nat.reduceEqDiff, Nat.mul_one, Nat.add_zero, Nat.zero_add, Nat.zero_mul, Int.toNat_natCast, Int.reduceToNat, Nat.reduceMul, Nat.reduceAdd, decide_true, decide_false, Bool.not_true, Bool.not_false, true_and, and_true, List.map_cons, List.map_nil, List.nil_append, List.cons_append, List.append_nil, Option.map_some, Option.bind_some, List.getElem?_cons_zero, List.getElem?_cons_succ, Bool.false_eq_true, not_true_eq_false, not_false_eq_true, List.contains_cons, List.contains_nil, Nat.reduceBEq, Bool.true_or, Bool.false_or, Bool.or_true, List.set_cons_zero, List.set_cons_succ, List.length_cons, List.length_nil, isLd, Bool.true_and, Bool.false_and, Bool.and_true, Bool.and_false, eq_self, fa0_0c, fa0_1c, fa0_2c, fa0_3c, fi0_0c, fi0_1c, fi0_2c, fi0_3c]
  refine laws_markInt64S_ok (o_g.sub s_g) (by omega) (by omega) fun G9 ug om => ?_
  have s_b := ug.sub s_b f_b_g
  have s_w := ug.sub s_w f_w_g
  have s_x0 := ug.sub s_x0 f_x0_g
  have fa0_0c := rd_sub s_b fa0_0
  have fa0_1c := rd_sub s_b fa0_1
  have fa0_2c := rd_sub s_b fa0_2
  have fa0_3c := rd_sub s_b fa0_3
  have fi0_0c := rd_sub s_x0 fi0_0
  have fi0_1c := rd_sub s_x0 fi0_1
  have fi0_2c := rd_sub s_x0 fi0_2
  have fi0_3c := rd_sub s_x0 fi0_3
  have s_m := Sub.refl G9
  simp (maxSteps := 300000) (disch := omega) only [gs, gs2, gs3, ↓reduceIte, Nat.reduceEqDiff, Nat.mul_one, Nat.add_zero, Nat.zero_add, Nat.zero_mul, Int.toNat_natCast, Int.reduceToNat, Nat.reduceMul, Nat.reduceAdd, decide_true, decide_false, Bool.not_true, Bool.not_false, true_and, and_true, List.map_cons, List.map_nil, List.nil_append, List.cons_append, List.append_nil, Option.map_some, Option.bind_some, List.getElem?_cons_zero, List.getElem?_cons_succ, Bool.false_eq_true, not_true_eq_false, not_false_eq_true, List.contains_cons, List.contains_nil, Nat.reduceBEq, Bool.true_or, Bool.false_or, Bool.or_true, List.set_cons_zero, List.set_cons_succ, List.length_cons, List.length_nil, isLd, Bool.true_and, Bool.false_and, Bool.and_true, Bool.and_false, fa0_0c, fa0_1c, fa0_2c, fa0_3c, fi0_0c, fi0_1c, fi0_2c, fi0_3c]
  refine laws_heldInt64S_ok (om.sub s_m).mk (by omega) (by omega) ?_
  simp (maxSteps := 300000) (disch := omega) only [gs, gs2, gs3, ↓reduceIte, Nat.reduceEqDiff, Nat.mul_one, Nat.add_zero, Nat.zero_add, Nat.zero_mul, Int.toNat_natCast, Int.reduceToNat, Nat.reduceMul, Nat.reduceAdd, decide_true, decide_false, Bool.not_true, Bool.not_false, true_and, and_true, List.map_cons, List.map_nil, List.nil_append, List.cons_append, List.append_nil, Option.map_some, Option.bind_some, List.getElem?_cons_zero, List.getElem?_cons_succ, Bool.false_eq_true, not_true_eq_false, not_false_eq_true, List.contains_cons, List.contains_nil, Nat.reduceBEq, Bool.true_or, Bool.false_or, Bool.or_true, List.set_cons_zero, List.set_cons_succ, List.length_cons, List.length_nil, isLd, Bool.true_and, Bool.false_and, Bool.and_true, Bool.and_false, eq_self, show (1 + ((narrV x0).1.length : Int) < 0) = False from eq_false (by omega), fa0_0c, fa0_1c, fa0_2c, fa0_3c, fi0_0c, fi0_1c, fi0_2c, fi0_3c]
  refine laws_toNetwork_new (N := x0) (h0.sub s_b) (by omega) fun Ah0 G10 n_h0 => ?_
  have o_h0 := n_h0.own
  have t_h0 := n_h0.sub
  have s_b := s_b.trans t_h0
  have s_w := s_w.trans t_h0
  have s_x0 := s_x0.trans t_h0
  have s_m := s_m.trans t_h0
  have fa0_0c := rd_sub s_b fa0_0
  have fa0_1c := rd_sub s_b fa0_1
  have fa0_2c := rd_sub s_b fa0_2
  have fa0_3c := rd_sub s_b fa0_3
  have fi0_0c := rd_sub s_x0 fi0_0
  have fi0_1c := rd_sub s_x0 fi0_1
  have fi0_2c := rd_sub s_x0 fi0_2
  have fi0_3c := rd_sub s_x0 fi0_3
  have s_h0 := Sub.rest G9 G10
  simp (maxSteps := 300000) (disch := omega) only [gs, gs2, gs3, ↓reduceIte, Nat.reduceEqDiff, Nat.mul_one, Nat.add_zero, Nat.zero_add, Nat.zero_mul, Int.toNat_natCast, Int.reduceToNat, Nat.reduceMul, Nat.reduceAdd, decide_true, decide_false, Bool.not_true, Bool.not_false, true_and, and_true, List.map_cons, List.map_nil, List.nil_append, List.cons_append, List.append_nil, Option.map_some, Option.bind_some, List.getElem?_cons_zero, List.getElem?_cons_succ, Bool.false_eq_true, not_true_eq_false, not_false_eq_true, List.contains_cons, List.contains_nil, Nat.reduceBEq, Bool.true_or, Bool.false_or, Bool.or_true, List.set_cons_zero, List.set_cons_succ, List.length_cons, List.length_nil, isLd, Bool.true_and, Bool.false_and, Bool.and_true, Bool.and_false, fa0_0c, fa0_1c, fa0_2c, fa0_3c, fi0_0c, fi0_1c, fi0_2c, fi0_3c]
  refine impl_NarrowArcs_ok (o_h0.sub s_h0).t3 rn0 (by omega) fun G11 Ah ch n_h => ?_
  have o_h := n_h.own
  have t_h := n_h.sub
  have s_b := s_b.trans t_h
  have s_w := s_w.trans t_h
  have s_x0 := s_x0.trans t_h
  have s_m := s_m.trans t_h
  have s_h0 := s_h0.trans t_h
  have fa0_0c := rd_sub s_b fa0_0
  have fa0_1c := rd_sub s_b fa0_1
  have fa0_2c := rd_sub s_b fa0_2
  have fa0_3c := rd_sub s_b fa0_3
  have fi0_0c := rd_sub s_x0 fi0_0
  have fi0_1c := rd_sub s_x0 fi0_1
  have fi0_2c := rd_sub s_x0 fi0_2
  have fi0_3c := rd_sub s_x0 fi0_3
  have s_h := Sub.rest G10 G11
  simp (maxSteps := 300000) (disch := omega) only [gs, gs2, gs3, ↓reduceIte, Nat.reduceEqDiff, Nat.mul_one, Nat.add_zero, Nat.zero_add, Nat.zero_mul, Int.toNat_natCast, Int.reduceToNat, Nat.reduceMul, Nat.reduceAdd, decide_true, decide_false, Bool.not_true, Bool.not_false, true_and, and_true, List.map_cons, List.map_nil, List.nil_append, List.cons_append, List.append_nil, Option.map_some, Option.bind_some, List.getElem?_cons_zero, List.getElem?_cons_succ, Bool.false_eq_true, not_true_eq_false, not_false_eq_true, List.contains_cons, List.contains_nil, Nat.reduceBEq, Bool.true_or, Bool.false_or, Bool.or_true, List.set_cons_zero, List.set_cons_succ, List.length_cons, List.length_nil, isLd, Bool.true_and, Bool.false_and, Bool.and_true, Bool.and_false, fa0_0c, fa0_1c, fa0_2c, fa0_3c, fi0_0c, fi0_1c, fi0_2c, fi0_3c]
  refine laws_eqInt64S_ok (o_h.sub s_h).ints (o_w.sub s_w).ints (by omega) ?_
  simp (maxSteps := 300000) (disch := omega) only [gs, gs2, gs3, ↓reduceIte, Nat.reduceEqDiff, Nat.mul_one, Nat.add_zero, Nat.zero_add, Nat.zero_mul, Int.toNat_natCast, Int.reduceToNat, Nat.reduceMul, Nat.reduceAdd, decide_true, decide_false, Bool.not_true, Bool.not_false, true_and, and_true, List.map_cons, List.map_nil, List.nil_append, List.cons_append, List.append_nil, Option.map_some, Option.bind_some, List.getElem?_cons_zero, List.getElem?_cons_succ, Bool.false_eq_true, not_true_eq_false, not_false_eq_true, List.contains_cons, List.contains_nil, Nat.reduceBEq, Bool.true_or, Bool.false_or, Bool.or_true, List.set_cons_zero, List.set_cons_succ, List.length_cons, List.length_nil, isLd, Bool.true_and, Bool.false_and, Bool.and_true, Bool.and_false, eq_self, fa0_0c, fa0_1c, fa0_2c, fa0_3c, fi0_0c, fi0_1c, fi0_2c, fi0_3c]
  refine laws_heldInt64S_ok (om.sub s_m).mk (by omega) (by omega) ?_
  simp (maxSteps := 300000) (disch := omega) only [gs, gs2, gs3, ↓reduceIte, Nat.reduceEqDiff, Nat.mul_one, Nat.add_zero, Nat.zero_add, Nat.zero_mul, Int.toNat_natCast, Int.reduceToNat, Nat.reduceMul, Nat.reduceAdd, decide_true, decide_false, Bool.not_true, Bool.not_false, true_and, and_true, List.map_cons, List.map_nil, List.nil_append, List.cons_append, List.append_nil, Option.map_some, Option.bind_some, List.getElem?_cons_zero, List.getElem?_cons_succ, Bool.false_eq_true, not_true_eq_false, not_false_eq_true, List.contains_cons, List.contains_nil, Nat.reduceBEq, Bool.true_or, Bool.false_or, Bool.or_true, List.set_cons_zero, List.set_cons_succ, List.length_cons, List.length_nil, isLd, Bool.true_and, Bool.false_and, Bool.and_true, Bool.and_false, eq_self, show (1 + ((narrV x0).1.length : Int) < 0) = False from eq_false (by omega), fa0_0c, fa0_1c, fa0_2c, fa0_3c, fi0_0c, fi0_1c, fi0_2c, fi0_3c]

end Go.Proofs.Ytmlkgpoakkgjbaa.Gh
