/- What the functions that the law FnCuts reaches return, and the law; it stands under no condition. -/
import Derived.Test.YtmlkgpoakkgjbaaYFnCutsa
namespace Go.Proofs.Ytmlkgpoakkgjbaa.Gh
open Go Go.RowKit Go.Proofs
set_option linter.unusedVariables false
set_option linter.unusedSimpArgs false
set_option maxHeartbeats 4000000

theorem st_one {G : GH} {b o : Nat} {cs : List Value} {v : Value} {K : Value → GH → Prop} (hb : G b = some ⟨cs, true⟩) (ho : o < cs.length) (h1 : oneB v = true) (hk : K undef (put G b ⟨cs.set o v, true⟩)) : gSt 1 (.pointer (some ⟨b, o, none⟩)) v G K := by
  have hc : v.cells = #[v] := by cases v <;> first | rfl | simp [oneB] at h1
  refine ⟨b, o, cs, rfl, hb, by rw [hc]; rfl, by omega, ?_, ?_⟩
  · rw [hc]; intro u hu; simp at hu; subst hu; exact h1
  · rw [hc]; exact hk
theorem zc_one (z : Value) (n : Nat) : zc [z] n = List.replicate n z := by
  apply List.ext_getElem
  · simp [zc]
  · intro i h1 h2; simp [zc, Nat.mod_one, List.getD]
/-- the place of the first element that meets p, or -1. -/
def idxI (p : Int → Bool) (xs : List Int) : Int := match xs.findIdx? p with | some i => i | none => -1
theorem idxI_none {p : Int → Bool} {xs : List Int} (h : ∀ i, i < xs.length → p (xs.getD i 0) = false) : idxI p xs = -1 := by
  have : xs.findIdx? p = none := by
    rw [List.findIdx?_eq_none_iff]
    intro x hx
    obtain ⟨i, hi, rfl⟩ := List.getElem_of_mem hx
    simpa [List.getD, hi] using h i hi
  simp [idxI, this]
theorem idxI_some {p : Int → Bool} {xs : List Int} {k : Nat} (hk : k < xs.length) (hp : p (xs.getD k 0) = true) (h : ∀ i, i < k → p (xs.getD i 0) = false) : idxI p xs = k := by
  have : xs.findIdx? p = some k := by
    rw [List.findIdx?_eq_some_iff_getElem]
    refine ⟨hk, by simpa [List.getD, hk] using hp, fun j hj => ?_⟩
    have := h j hj
    simpa [List.getD, show j < xs.length by omega] using this
  simp [idxI, this]
theorem spec_l00In_ok (a b c : Int) {G : GH} {K : Value → GH → Prop} (hk : K (.bool (decide (b ≤ a ∧ a ≤ c))) G) : GC Try.prog 121 [.int .i64 a, .int .i64 b, .int .i64 c] G K := by
  refine c_spec_l00In_i (by simp) ?_
  simp (maxSteps := 300000) (disch := omega) only [gs, gs2, gs3, ↓reduceIte, Nat.reduceEqDiff, Nat.mul_one, Nat.add_zero, Nat.zero_add, Nat.zero_mul, Int.toNat_natCast, Int.reduceToNat, Nat.reduceMul, Nat.reduceAdd, decide_true, decide_false, Bool.not_true, Bool.not_false, true_and, and_true, List.map_cons, List.map_nil, List.nil_append, List.cons_append, List.append_nil, Option.map_some, Option.bind_some, List.getElem?_cons_zero, List.getElem?_cons_succ, Bool.false_eq_true, not_true_eq_false, not_false_eq_true, List.contains_cons, List.contains_nil, Nat.reduceBEq, Bool.true_or, Bool.false_or, Bool.or_true, List.set_cons_zero, List.set_cons_succ, List.length_cons, List.length_nil, isLd, Bool.true_and, Bool.false_and, Bool.and_true, Bool.and_false]
  by_cases h1 : b ≤ a
  · simp (maxSteps := 300000) (disch := omega) only [gs, gs2, gs3, ↓reduceIte, Nat.reduceEqDiff, Nat.mul_one, Nat.add_zero, Nat.zero_add, Nat.zero_mul, Int.toNat_natCast, Int.reduceToNat, Nat.reduceMul, Nat.reduceAdd, decide_true, decide_false, Bool.not_true, Bool.not_false, true_and, and_true, List.map_cons, List.map_nil, List.nil_append, List.cons_append, List.append_nil, Option.map_some, Option.bind_some, List.getElem?_cons_zero, List.getElem?_cons_succ, Bool.false_eq_true, not_true_eq_false, not_false_eq_true, List.contains_cons, List.contains_nil, Nat.reduceBEq, Bool.true_or, Bool.false_or, Bool.or_true, List.set_cons_zero, List.set_cons_succ, List.length_cons, List.length_nil, isLd, Bool.true_and, Bool.false_and, Bool.and_true, Bool.and_false, h1]
    simpa [h1] using hk
  · simp (maxSteps := 300000) (disch := omega) only [gs, gs2, gs3, ↓reduceIte, Nat.reduceEqDiff, Nat.mul_one, Nat.add_zero, Nat.zero_add, Nat.zero_mul, Int.toNat_natCast, Int.reduceToNat, Nat.reduceMul, Nat.reduceAdd, decide_true, decide_false, Bool.not_true, Bool.not_false, true_and, and_true, List.map_cons, List.map_nil, List.nil_append, List.cons_append, List.append_nil, Option.map_some, Option.bind_some, List.getElem?_cons_zero, List.getElem?_cons_succ, Bool.false_eq_true, not_true_eq_false, not_false_eq_true, List.contains_cons, List.contains_nil, Nat.reduceBEq, Bool.true_or, Bool.false_or, Bool.or_true, List.set_cons_zero, List.set_cons_succ, List.length_cons, List.length_nil, isLd, Bool.true_and, Bool.false_and, Bool.and_true, Bool.and_false, h1]
    simpa [h1] using hk
theorem impl_within_ok (a b c : Int) {G : GH} {K : Value → GH → Prop} (hk : K (.bool (decide (b ≤ a ∧ a ≤ c))) G) : GC Try.prog 122 [.int .i64 a, .int .i64 b, .int .i64 c] G K := by
  refine c_impl_within_i (by simp) ?_
  simp (maxSteps := 300000) (disch := omega) only [gs, gs2, gs3, ↓reduceIte, Nat.reduceEqDiff, Nat.mul_one, Nat.add_zero, Nat.zero_add, Nat.zero_mul, Int.toNat_natCast, Int.reduceToNat, Nat.reduceMul, Nat.reduceAdd, decide_true, decide_false, Bool.not_true, Bool.not_false, true_and, and_true, List.map_cons, List.map_nil, List.nil_append, List.cons_append, List.append_nil, Option.map_some, Option.bind_some, List.getElem?_cons_zero, List.getElem?_cons_succ, Bool.false_eq_true, not_true_eq_false, not_false_eq_true, List.contains_cons, List.contains_nil, Nat.reduceBEq, Bool.true_or, Bool.false_or, Bool.or_true, List.set_cons_zero, List.set_cons_succ, List.length_cons, List.length_nil, isLd, Bool.true_and, Bool.false_and, Bool.and_true, Bool.and_false]
  by_cases h1 : b ≤ a
  · simp (maxSteps := 300000) (disch := omega) only [gs, gs2, gs3, ↓reduceIte, Nat.reduceEqDiff, Nat.mul_one, Nat.add_zero, Nat.zero_add, Nat.zero_mul, Int.toNat_natCast, Int.reduceToNat, Nat.reduceMul, Nat.reduceAdd, decide_true, decide_false, Bool.not_true, Bool.not_false, true_and, and_true, List.map_cons, List.map_nil, List.nil_append, List.cons_append, List.append_nil, Option.map_some, Option.bind_some, List.getElem?_cons_zero, List.getElem?_cons_succ, Bool.false_eq_true, not_true_eq_false, not_false_eq_true, List.contains_cons, List.contains_nil, Nat.reduceBEq, Bool.true_or, Bool.false_or, Bool.or_true, List.set_cons_zero, List.set_cons_succ, List.length_cons, List.length_nil, isLd, Bool.true_and, Bool.false_and, Bool.and_true, Bool.and_false, h1]
    simpa [h1] using hk
  · simp (maxSteps := 300000) (disch := omega) only [gs, gs2, gs3, ↓reduceIte, Nat.reduceEqDiff, Nat.mul_one, Nat.add_zero, Nat.zero_add, Nat.zero_mul, Int.toNat_natCast, Int.reduceToNat, Nat.reduceMul, Nat.reduceAdd, decide_true, decide_false, Bool.not_true, Bool.not_false, true_and, and_true, List.map_cons, List.map_nil, List.nil_append, List.cons_append, List.append_nil, Option.map_some, Option.bind_some, List.getElem?_cons_zero, List.getElem?_cons_succ, Bool.false_eq_true, not_true_eq_false, not_false_eq_true, List.contains_cons, List.contains_nil, Nat.reduceBEq, Bool.true_or, Bool.false_or, Bool.or_true, List.set_cons_zero, List.set_cons_succ, List.length_cons, List.length_nil, isLd, Bool.true_and, Bool.false_and, Bool.and_true, Bool.and_false, h1]
    simpa [h1] using hk
theorem spec_l00Min_ok (a b : Int) {G : GH} {K : Value → GH → Prop} (hk : K (.int .i64 (min a b)) G) : GC Try.prog 206 [.int .i64 a, .int .i64 b] G K := by
  refine c_spec_l00Min_i (by simp) ?_
  simp (maxSteps := 300000) (disch := omega) only [gs, gs2, gs3, ↓reduceIte, Nat.reduceEqDiff, Nat.mul_one, Nat.add_zero, Nat.zero_add, Nat.zero_mul, Int.toNat_natCast, Int.reduceToNat, Nat.reduceMul, Nat.reduceAdd, decide_true, decide_false, Bool.not_true, Bool.not_false, true_and, and_true, List.map_cons, List.map_nil, List.nil_append, List.cons_append, List.append_nil, Option.map_some, Option.bind_some, List.getElem?_cons_zero, List.getElem?_cons_succ, Bool.false_eq_true, not_true_eq_false, not_false_eq_true, List.contains_cons, List.contains_nil, Nat.reduceBEq, Bool.true_or, Bool.false_or, Bool.or_true, List.set_cons_zero, List.set_cons_succ, List.length_cons, List.length_nil, isLd, Bool.true_and, Bool.false_and, Bool.and_true, Bool.and_false]
  by_cases h1 : a < b
  · simp (maxSteps := 300000) (disch := omega) only [gs, gs2, gs3, ↓reduceIte, Nat.reduceEqDiff, Nat.mul_one, Nat.add_zero, Nat.zero_add, Nat.zero_mul, Int.toNat_natCast, Int.reduceToNat, Nat.reduceMul, Nat.reduceAdd, decide_true, decide_false, Bool.not_true, Bool.not_false, true_and, and_true, List.map_cons, List.map_nil, List.nil_append, List.cons_append, List.append_nil, Option.map_some, Option.bind_some, List.getElem?_cons_zero, List.getElem?_cons_succ, Bool.false_eq_true, not_true_eq_false, not_false_eq_true, List.contains_cons, List.contains_nil, Nat.reduceBEq, Bool.true_or, Bool.false_or, Bool.or_true, List.set_cons_zero, List.set_cons_succ, List.length_cons, List.length_nil, isLd, Bool.true_and, Bool.false_and, Bool.and_true, Bool.and_false, h1]
    rwa [show min a b = a by omega] at hk
  · simp (maxSteps := 300000) (disch := omega) only [gs, gs2, gs3, ↓reduceIte, Nat.reduceEqDiff, Nat.mul_one, Nat.add_zero, Nat.zero_add, Nat.zero_mul, Int.toNat_natCast, Int.reduceToNat, Nat.reduceMul, Nat.reduceAdd, decide_true, decide_false, Bool.not_true, Bool.not_false, true_and, and_true, List.map_cons, List.map_nil, List.nil_append, List.cons_append, List.append_nil, Option.map_some, Option.bind_some, List.getElem?_cons_zero, List.getElem?_cons_succ, Bool.false_eq_true, not_true_eq_false, not_false_eq_true, List.contains_cons, List.contains_nil, Nat.reduceBEq, Bool.true_or, Bool.false_or, Bool.or_true, List.set_cons_zero, List.set_cons_succ, List.length_cons, List.length_nil, isLd, Bool.true_and, Bool.false_and, Bool.and_true, Bool.and_false, h1]
    rwa [show min a b = b by omega] at hk
def pairV (p : Int × Int) : Value := .tuple [.int .i64 p.1, .int .i64 p.2].toArray
def cmp3 (a b : Int) : Int := if a < b then -1 else if b < a then 1 else 0
theorem cmp_isNaN_ok (a : Int) {G : GH} {K : Value → GH → Prop} (hk : K (.bool false) G) : GC Try.prog 248 [.int .i64 a] G K := by
  refine c_cmp_isNaN_int64_i (by simp) ?_
  simp (maxSteps := 300000) (disch := omega) only [gs, gs2, gs3, ↓reduceIte, Nat.reduceEqDiff, Nat.mul_one, Nat.add_zero, Nat.zero_add, Nat.zero_mul, Int.toNat_natCast, Int.reduceToNat, Nat.reduceMul, Nat.reduceAdd, decide_true, decide_false, Bool.not_true, Bool.not_false, true_and, and_true, List.map_cons, List.map_nil, List.nil_append, List.cons_append, List.append_nil, Option.map_some, Option.bind_some, List.getElem?_cons_zero, List.getElem?_cons_succ, Bool.false_eq_true, not_true_eq_false, not_false_eq_true, List.contains_cons, List.contains_nil, Nat.reduceBEq, Bool.true_or, Bool.false_or, Bool.or_true, List.set_cons_zero, List.set_cons_succ, List.length_cons, List.length_nil, isLd, Bool.true_and, Bool.false_and, Bool.and_true, Bool.and_false]
  exact hk
theorem cmp_Compare_ok (a b : Int) {G : GH} {K : Value → GH → Prop} (hk : K (.int .i64 (cmp3 a b)) G) : GC Try.prog 218 [.int .i64 a, .int .i64 b] G K := by
  refine c_cmp_Compare_int64_i (by simp) ?_
  simp (maxSteps := 300000) (disch := omega) only [gs, gs2, gs3, ↓reduceIte, Nat.reduceEqDiff, Nat.mul_one, Nat.add_zero, Nat.zero_add, Nat.zero_mul, Int.toNat_natCast, Int.reduceToNat, Nat.reduceMul, Nat.reduceAdd, decide_true, decide_false, Bool.not_true, Bool.not_false, true_and, and_true, List.map_cons, List.map_nil, List.nil_append, List.cons_append, List.append_nil, Option.map_some, Option.bind_some, List.getElem?_cons_zero, List.getElem?_cons_succ, Bool.false_eq_true, not_true_eq_false, not_false_eq_true, List.contains_cons, List.contains_nil, Nat.reduceBEq, Bool.true_or, Bool.false_or, Bool.or_true, List.set_cons_zero, List.set_cons_succ, List.length_cons, List.length_nil, isLd, Bool.true_and, Bool.false_and, Bool.and_true, Bool.and_false]
  refine cmp_isNaN_ok _ ?_
  simp (maxSteps := 300000) (disch := omega) only [gs, gs2, gs3, ↓reduceIte, Nat.reduceEqDiff, Nat.mul_one, Nat.add_zero, Nat.zero_add, Nat.zero_mul, Int.toNat_natCast, Int.reduceToNat, Nat.reduceMul, Nat.reduceAdd, decide_true, decide_false, Bool.not_true, Bool.not_false, true_and, and_true, List.map_cons, List.map_nil, List.nil_append, List.cons_append, List.append_nil, Option.map_some, Option.bind_some, List.getElem?_cons_zero, List.getElem?_cons_succ, Bool.false_eq_true, not_true_eq_false, not_false_eq_true, List.contains_cons, List.contains_nil, Nat.reduceBEq, Bool.true_or, Bool.false_or, Bool.or_true, List.set_cons_zero, List.set_cons_succ, List.length_cons, List.length_nil, isLd, Bool.true_and, Bool.false_and, Bool.and_true, Bool.and_false]
  refine cmp_isNaN_ok _ ?_
  simp (maxSteps := 300000) (disch := omega) only [gs, gs2, gs3, ↓reduceIte, Nat.reduceEqDiff, Nat.mul_one, Nat.add_zero, Nat.zero_add, Nat.zero_mul, Int.toNat_natCast, Int.reduceToNat, Nat.reduceMul, Nat.reduceAdd, decide_true, decide_false, Bool.not_true, Bool.not_false, true_and, and_true, List.map_cons, List.map_nil, List.nil_append, List.cons_append, List.append_nil, Option.map_some, Option.bind_some, List.getElem?_cons_zero, List.getElem?_cons_succ, Bool.false_eq_true, not_true_eq_false, not_false_eq_true, List.contains_cons, List.contains_nil, Nat.reduceBEq, Bool.true_or, Bool.false_or, Bool.or_true, List.set_cons_zero, List.set_cons_succ, List.length_cons, List.length_nil, isLd, Bool.true_and, Bool.false_and, Bool.and_true, Bool.and_false]
  unfold cmp3 at hk
  by_cases h1 : a < b
  · simp (maxSteps := 300000) (disch := omega) only [gs, gs2, gs3, ↓reduceIte, Nat.reduceEqDiff, Nat.mul_one, Nat.add_zero, Nat.zero_add, Nat.zero_mul, Int.toNat_natCast, Int.reduceToNat, Nat.reduceMul, Nat.reduceAdd, decide_true, decide_false, Bool.not_true, Bool.not_false, true_and, and_true, List.map_cons, List.map_nil, List.nil_append, List.cons_append, List.append_nil, Option.map_some, Option.bind_some, List.getElem?_cons_zero, List.getElem?_cons_succ, Bool.false_eq_true, not_true_eq_false, not_false_eq_true, List.contains_cons, List.contains_nil, Nat.reduceBEq, Bool.true_or, Bool.false_or, Bool.or_true, List.set_cons_zero, List.set_cons_succ, List.length_cons, List.length_nil, isLd, Bool.true_and, Bool.false_and, Bool.and_true, Bool.and_false, h1]; rwa [if_pos h1] at hk
  · rw [if_neg h1] at hk
    simp (maxSteps := 300000) (disch := omega) only [gs, gs2, gs3, ↓reduceIte, Nat.reduceEqDiff, Nat.mul_one, Nat.add_zero, Nat.zero_add, Nat.zero_mul, Int.toNat_natCast, Int.reduceToNat, Nat.reduceMul, Nat.reduceAdd, decide_true, decide_false, Bool.not_true, Bool.not_false, true_and, and_true, List.map_cons, List.map_nil, List.nil_append, List.cons_append, List.append_nil, Option.map_some, Option.bind_some, List.getElem?_cons_zero, List.getElem?_cons_succ, Bool.false_eq_true, not_true_eq_false, not_false_eq_true, List.contains_cons, List.contains_nil, Nat.reduceBEq, Bool.true_or, Bool.false_or, Bool.or_true, List.set_cons_zero, List.set_cons_succ, List.length_cons, List.length_nil, isLd, Bool.true_and, Bool.false_and, Bool.and_true, Bool.and_false, h1]
    by_cases h2 : b < a
    · simp (maxSteps := 300000) (disch := omega) only [gs, gs2, gs3, ↓reduceIte, Nat.reduceEqDiff, Nat.mul_one, Nat.add_zero, Nat.zero_add, Nat.zero_mul, Int.toNat_natCast, Int.reduceToNat, Nat.reduceMul, Nat.reduceAdd, decide_true, decide_false, Bool.not_true, Bool.not_false, true_and, and_true, List.map_cons, List.map_nil, List.nil_append, List.cons_append, List.append_nil, Option.map_some, Option.bind_some, List.getElem?_cons_zero, List.getElem?_cons_succ, Bool.false_eq_true, not_true_eq_false, not_false_eq_true, List.contains_cons, List.contains_nil, Nat.reduceBEq, Bool.true_or, Bool.false_or, Bool.or_true, List.set_cons_zero, List.set_cons_succ, List.length_cons, List.length_nil, isLd, Bool.true_and, Bool.false_and, Bool.and_true, Bool.and_false, h2]; rwa [if_pos h2] at hk
    · simp (maxSteps := 300000) (disch := omega) only [gs, gs2, gs3, ↓reduceIte, Nat.reduceEqDiff, Nat.mul_one, Nat.add_zero, Nat.zero_add, Nat.zero_mul, Int.toNat_natCast, Int.reduceToNat, Nat.reduceMul, Nat.reduceAdd, decide_true, decide_false, Bool.not_true, Bool.not_false, true_and, and_true, List.map_cons, List.map_nil, List.nil_append, List.cons_append, List.append_nil, Option.map_some, Option.bind_some, List.getElem?_cons_zero, List.getElem?_cons_succ, Bool.false_eq_true, not_true_eq_false, not_false_eq_true, List.contains_cons, List.contains_nil, Nat.reduceBEq, Bool.true_or, Bool.false_or, Bool.or_true, List.set_cons_zero, List.set_cons_succ, List.length_cons, List.length_nil, isLd, Bool.true_and, Bool.false_and, Bool.and_true, Bool.and_false, h2]; rwa [if_neg h2] at hk
/-- cmp.Or of two numbers. -/
theorem cmp_Or_ok (a b : Int) {G : GH} {A : Option Addr} {c : Nat} (h0 : rd G A = some (.int .i64 a)) (h1 : rd G (pa A 1) = some (.int .i64 b)) {K : Value → GH → Prop} (hk : K (.int .i64 (if a = 0 then b else a)) G) : GC Try.prog 241 [.slice A 2 c] G K := by
  refine c_cmp_Or_int_i (by simp) ?_
  have hsn := rd_some h0
  simp (maxSteps := 300000) (disch := omega) only [gs, gs2, gs3, ↓reduceIte, Nat.reduceEqDiff, Nat.mul_one, Nat.add_zero, Nat.zero_add, Nat.zero_mul, Int.toNat_natCast, Int.reduceToNat, Nat.reduceMul, Nat.reduceAdd, decide_true, decide_false, Bool.not_true, Bool.not_false, true_and, and_true, List.map_cons, List.map_nil, List.nil_append, List.cons_append, List.append_nil, Option.map_some, Option.bind_some, List.getElem?_cons_zero, List.getElem?_cons_succ, Bool.false_eq_true, not_true_eq_false, not_false_eq_true, List.contains_cons, List.contains_nil, Nat.reduceBEq, Bool.true_or, Bool.false_or, Bool.or_true, List.set_cons_zero, List.set_cons_succ, List.length_cons, List.length_nil, isLd, Bool.true_and, Bool.false_and, Bool.and_true, Bool.and_false]
  refine gLoop_intro (fun m T G' => ∃ k : Nat, T 3 = .int .i64 0 ∧ T 6 = .slice A 2 c ∧ T 7 = .int .i64 2 ∧ T 8 = .int .i64 k ∧ m + k = 2 ∧ G' = G ∧ (k = 1 → a = 0) ∧ (k = 2 → a = 0 ∧ b = 0)) 2 ⟨0, by simp (maxSteps := 300000) (disch := omega) only [gs, gs2, gs3, ↓reduceIte, Nat.reduceEqDiff, Nat.mul_one, Nat.add_zero, Nat.zero_add, Nat.zero_mul, Int.toNat_natCast, Int.reduceToNat, Nat.reduceMul, Nat.reduceAdd, decide_true, decide_false, Bool.not_true, Bool.not_false, true_and, and_true, List.map_cons, List.map_nil, List.nil_append, List.cons_append, List.append_nil, Option.map_some, Option.bind_some, List.getElem?_cons_zero, List.getElem?_cons_succ, Bool.false_eq_true, not_true_eq_false, not_false_eq_true, List.contains_cons, List.contains_nil, Nat.reduceBEq, Bool.true_or, Bool.false_or, Bool.or_true, List.set_cons_zero, List.set_cons_succ, List.length_cons, List.length_nil, isLd, Bool.true_and, Bool.false_and, Bool.and_true, Bool.and_false], by simp (maxSteps := 300000) (disch := omega) only [gs, gs2, gs3, ↓reduceIte, Nat.reduceEqDiff, Nat.mul_one, Nat.add_zero, Nat.zero_add, Nat.zero_mul, Int.toNat_natCast, Int.reduceToNat, Nat.reduceMul, Nat.reduceAdd, decide_true, decide_false, Bool.not_true, Bool.not_false, true_and, and_true, List.map_cons, List.map_nil, List.nil_append, List.cons_append, List.append_nil, Option.map_some, Option.bind_some, List.getElem?_cons_zero, List.getElem?_cons_succ, Bool.false_eq_true, not_true_eq_false, not_false_eq_true, List.contains_cons, List.contains_nil, Nat.reduceBEq, Bool.true_or, Bool.false_or, Bool.or_true, List.set_cons_zero, List.set_cons_succ, List.length_cons, List.length_nil, isLd, Bool.true_and, Bool.false_and, Bool.and_true, Bool.and_false], by simp (maxSteps := 300000) (disch := omega) only [gs, gs2, gs3, ↓reduceIte, Nat.reduceEqDiff, Nat.mul_one, Nat.add_zero, Nat.zero_add, Nat.zero_mul, Int.toNat_natCast, Int.reduceToNat, Nat.reduceMul, Nat.reduceAdd, decide_true, decide_false, Bool.not_true, Bool.not_false, true_and, and_true, List.map_cons, List.map_nil, List.nil_append, List.cons_append, List.append_nil, Option.map_some, Option.bind_some, List.getElem?_cons_zero, List.getElem?_cons_succ, Bool.false_eq_true, not_true_eq_false, not_false_eq_true, List.contains_cons, List.contains_nil, Nat.reduceBEq, Bool.true_or, Bool.false_or, Bool.or_true, List.set_cons_zero, List.set_cons_succ, List.length_cons, List.length_nil, isLd, Bool.true_and, Bool.false_and, Bool.and_true, Bool.and_false] <;> rfl, by simp (maxSteps := 300000) (disch := omega) only [gs, gs2, gs3, ↓reduceIte, Nat.reduceEqDiff, Nat.mul_one, Nat.add_zero, Nat.zero_add, Nat.zero_mul, Int.toNat_natCast, Int.reduceToNat, Nat.reduceMul, Nat.reduceAdd, decide_true, decide_false, Bool.not_true, Bool.not_false, true_and, and_true, List.map_cons, List.map_nil, List.nil_append, List.cons_append, List.append_nil, Option.map_some, Option.bind_some, List.getElem?_cons_zero, List.getElem?_cons_succ, Bool.false_eq_true, not_true_eq_false, not_false_eq_true, List.contains_cons, List.contains_nil, Nat.reduceBEq, Bool.true_or, Bool.false_or, Bool.or_true, List.set_cons_zero, List.set_cons_succ, List.length_cons, List.length_nil, isLd, Bool.true_and, Bool.false_and, Bool.and_true, Bool.and_false] <;> rfl, by omega, rfl, by omega, by omega⟩ ?_
  rintro m T G' ⟨k, e3, e6, e7, e8, hm, rfl, ha, hb⟩
  simp (maxSteps := 300000) (disch := omega) only [gs, gs2, gs3, ↓reduceIte, Nat.reduceEqDiff, Nat.mul_one, Nat.add_zero, Nat.zero_add, Nat.zero_mul, Int.toNat_natCast, Int.reduceToNat, Nat.reduceMul, Nat.reduceAdd, decide_true, decide_false, Bool.not_true, Bool.not_false, true_and, and_true, List.map_cons, List.map_nil, List.nil_append, List.cons_append, List.append_nil, Option.map_some, Option.bind_some, List.getElem?_cons_zero, List.getElem?_cons_succ, Bool.false_eq_true, not_true_eq_false, not_false_eq_true, List.contains_cons, List.contains_nil, Nat.reduceBEq, Bool.true_or, Bool.false_or, Bool.or_true, List.set_cons_zero, List.set_cons_succ, List.length_cons, List.length_nil, isLd, Bool.true_and, Bool.false_and, Bool.and_true, Bool.and_false, e3, e6, e7, e8]
  have hk2 : k = 0 ∨ k = 1 ∨ k = 2 := by omega
  rcases hk2 with rfl | rfl | rfl
  · simp (maxSteps := 300000) (disch := omega) only [gs, gs2, gs3, ↓reduceIte, Nat.reduceEqDiff, Nat.mul_one, Nat.add_zero, Nat.zero_add, Nat.zero_mul, Int.toNat_natCast, Int.reduceToNat, Nat.reduceMul, Nat.reduceAdd, decide_true, decide_false, Bool.not_true, Bool.not_false, true_and, and_true, List.map_cons, List.map_nil, List.nil_append, List.cons_append, List.append_nil, Option.map_some, Option.bind_some, List.getElem?_cons_zero, List.getElem?_cons_succ, Bool.false_eq_true, not_true_eq_false, not_false_eq_true, List.contains_cons, List.contains_nil, Nat.reduceBEq, Bool.true_or, Bool.false_or, Bool.or_true, List.set_cons_zero, List.set_cons_succ, List.length_cons, List.length_nil, isLd, Bool.true_and, Bool.false_and, Bool.and_true, Bool.and_false, e3, e6, e7, e8, Int.natCast_zero, Int.reduceLT, Int.le_refl, h0]
    cases hz : decide (¬ a = 0)
    · simp (maxSteps := 300000) (disch := omega) only [gs, gs2, gs3, ↓reduceIte, Nat.reduceEqDiff, Nat.mul_one, Nat.add_zero, Nat.zero_add, Nat.zero_mul, Int.toNat_natCast, Int.reduceToNat, Nat.reduceMul, Nat.reduceAdd, decide_true, decide_false, Bool.not_true, Bool.not_false, true_and, and_true, List.map_cons, List.map_nil, List.nil_append, List.cons_append, List.append_nil, Option.map_some, Option.bind_some, List.getElem?_cons_zero, List.getElem?_cons_succ, Bool.false_eq_true, not_true_eq_false, not_false_eq_true, List.contains_cons, List.contains_nil, Nat.reduceBEq, Bool.true_or, Bool.false_or, Bool.or_true, List.set_cons_zero, List.set_cons_succ, List.length_cons, List.length_nil, isLd, Bool.true_and, Bool.false_and, Bool.and_true, Bool.and_false, e3, e6, e7, e8]
      have hz : a = 0 := by simpa using hz
      exact ⟨m - 1, by omega, _, Sub.refl _, 1, rfl, by omega, rfl, fun _ => hz, by omega⟩
    · simp (maxSteps := 300000) (disch := omega) only [gs, gs2, gs3, ↓reduceIte, Nat.reduceEqDiff, Nat.mul_one, Nat.add_zero, Nat.zero_add, Nat.zero_mul, Int.toNat_natCast, Int.reduceToNat, Nat.reduceMul, Nat.reduceAdd, decide_true, decide_false, Bool.not_true, Bool.not_false, true_and, and_true, List.map_cons, List.map_nil, List.nil_append, List.cons_append, List.append_nil, Option.map_some, Option.bind_some, List.getElem?_cons_zero, List.getElem?_cons_succ, Bool.false_eq_true, not_true_eq_false, not_false_eq_true, List.contains_cons, List.contains_nil, Nat.reduceBEq, Bool.true_or, Bool.false_or, Bool.or_true, List.set_cons_zero, List.set_cons_succ, List.length_cons, List.length_nil, isLd, Bool.true_and, Bool.false_and, Bool.and_true, Bool.and_false]
      have hz : ¬ a = 0 := by simpa using hz
      rwa [if_neg hz] at hk
  · rw [if_pos (ha rfl)] at hk
    simp (maxSteps := 300000) (disch := omega) only [gs, gs2, gs3, ↓reduceIte, Nat.reduceEqDiff, Nat.mul_one, Nat.add_zero, Nat.zero_add, Nat.zero_mul, Int.toNat_natCast, Int.reduceToNat, Nat.reduceMul, Nat.reduceAdd, decide_true, decide_false, Bool.not_true, Bool.not_false, true_and, and_true, List.map_cons, List.map_nil, List.nil_append, List.cons_append, List.append_nil, Option.map_some, Option.bind_some, List.getElem?_cons_zero, List.getElem?_cons_succ, Bool.false_eq_true, not_true_eq_false, not_false_eq_true, List.contains_cons, List.contains_nil, Nat.reduceBEq, Bool.true_or, Bool.false_or, Bool.or_true, List.set_cons_zero, List.set_cons_succ, List.length_cons, List.length_nil, isLd, Bool.true_and, Bool.false_and, Bool.and_true, Bool.and_false, e3, e6, e7, e8, Int.natCast_one, Int.reduceLT, Int.le_refl, h1]
    cases hz : decide (¬ b = 0)
    · simp (maxSteps := 300000) (disch := omega) only [gs, gs2, gs3, ↓reduceIte, Nat.reduceEqDiff, Nat.mul_one, Nat.add_zero, Nat.zero_add, Nat.zero_mul, Int.toNat_natCast, Int.reduceToNat, Nat.reduceMul, Nat.reduceAdd, decide_true, decide_false, Bool.not_true, Bool.not_false, true_and, and_true, List.map_cons, List.map_nil, List.nil_append, List.cons_append, List.append_nil, Option.map_some, Option.bind_some, List.getElem?_cons_zero, List.getElem?_cons_succ, Bool.false_eq_true, not_true_eq_false, not_false_eq_true, List.contains_cons, List.contains_nil, Nat.reduceBEq, Bool.true_or, Bool.false_or, Bool.or_true, List.set_cons_zero, List.set_cons_succ, List.length_cons, List.length_nil, isLd, Bool.true_and, Bool.false_and, Bool.and_true, Bool.and_false, e3, e6, e7, e8]
      have hz : b = 0 := by simpa using hz
      exact ⟨m - 1, by omega, _, Sub.refl _, 2, rfl, by omega, rfl, by omega, fun _ => ⟨ha rfl, hz⟩⟩
    · simp (maxSteps := 300000) (disch := omega) only [gs, gs2, gs3, ↓reduceIte, Nat.reduceEqDiff, Nat.mul_one, Nat.add_zero, Nat.zero_add, Nat.zero_mul, Int.toNat_natCast, Int.reduceToNat, Nat.reduceMul, Nat.reduceAdd, decide_true, decide_false, Bool.not_true, Bool.not_false, true_and, and_true, List.map_cons, List.map_nil, List.nil_append, List.cons_append, List.append_nil, Option.map_some, Option.bind_some, List.getElem?_cons_zero, List.getElem?_cons_succ, Bool.false_eq_true, not_true_eq_false, not_false_eq_true, List.contains_cons, List.contains_nil, Nat.reduceBEq, Bool.true_or, Bool.false_or, Bool.or_true, List.set_cons_zero, List.set_cons_succ, List.length_cons, List.length_nil, isLd, Bool.true_and, Bool.false_and, Bool.and_true, Bool.and_false]
      exact hk
  · rw [if_pos (hb rfl).1, (hb rfl).2] at hk
    simp (maxSteps := 300000) (disch := omega) only [gs, gs2, gs3, ↓reduceIte, Nat.reduceEqDiff, Nat.mul_one, Nat.add_zero, Nat.zero_add, Nat.zero_mul, Int.toNat_natCast, Int.reduceToNat, Nat.reduceMul, Nat.reduceAdd, decide_true, decide_false, Bool.not_true, Bool.not_false, true_and, and_true, List.map_cons, List.map_nil, List.nil_append, List.cons_append, List.append_nil, Option.map_some, Option.bind_some, List.getElem?_cons_zero, List.getElem?_cons_succ, Bool.false_eq_true, not_true_eq_false, not_false_eq_true, List.contains_cons, List.contains_nil, Nat.reduceBEq, Bool.true_or, Bool.false_or, Bool.or_true, List.set_cons_zero, List.set_cons_succ, List.length_cons, List.length_nil, isLd, Bool.true_and, Bool.false_and, Bool.and_true, Bool.and_false, e3, e6, e7, e8, Int.reduceLT, show (((2 : Nat) : Int) < 2) = False by decide]
    exact hk
theorem impl_isElement_ok (a p : Int) {G : GH} {K : Value → GH → Prop} (hk : K (.bool (decide (0 ≤ a ∧ a ≤ IntKind.i64.wrap (p - 1)))) G) : GC Try.prog 180 [.int .i64 a, .int .i64 p] G K := by
  refine c_impl_isElement_i (by simp) ?_
  simp (maxSteps := 300000) (disch := omega) only [gs, gs2, gs3, ↓reduceIte, Nat.reduceEqDiff, Nat.mul_one, Nat.add_zero, Nat.zero_add, Nat.zero_mul, Int.toNat_natCast, Int.reduceToNat, Nat.reduceMul, Nat.reduceAdd, decide_true, decide_false, Bool.not_true, Bool.not_false, true_and, and_true, List.map_cons, List.map_nil, List.nil_append, List.cons_append, List.append_nil, Option.map_some, Option.bind_some, List.getElem?_cons_zero, List.getElem?_cons_succ, Bool.false_eq_true, not_true_eq_false, not_false_eq_true, List.contains_cons, List.contains_nil, Nat.reduceBEq, Bool.true_or, Bool.false_or, Bool.or_true, List.set_cons_zero, List.set_cons_succ, List.length_cons, List.length_nil, isLd, Bool.true_and, Bool.false_and, Bool.and_true, Bool.and_false]
  refine impl_within_ok _ _ _ ?_
  simp (maxSteps := 300000) (disch := omega) only [gs, gs2, gs3, ↓reduceIte, Nat.reduceEqDiff, Nat.mul_one, Nat.add_zero, Nat.zero_add, Nat.zero_mul, Int.toNat_natCast, Int.reduceToNat, Nat.reduceMul, Nat.reduceAdd, decide_true, decide_false, Bool.not_true, Bool.not_false, true_and, and_true, List.map_cons, List.map_nil, List.nil_append, List.cons_append, List.append_nil, Option.map_some, Option.bind_some, List.getElem?_cons_zero, List.getElem?_cons_succ, Bool.false_eq_true, not_true_eq_false, not_false_eq_true, List.contains_cons, List.contains_nil, Nat.reduceBEq, Bool.true_or, Bool.false_or, Bool.or_true, List.set_cons_zero, List.set_cons_succ, List.length_cons, List.length_nil, isLd, Bool.true_and, Bool.false_and, Bool.and_true, Bool.and_false]
  exact hk
def okArc (n : Int) (e : T3) : Prop := (0 ≤ e.1 ∧ e.1 ≤ n) ∧ (0 ≤ e.2.1 ∧ e.2.1 ≤ n) ∧ e.1 ≠ e.2.1 ∧ (0 ≤ e.2.2 ∧ e.2.2 ≤ 1000000)
def ltArc (a b : T3) : Prop := a.1 < b.1 ∨ a.1 = b.1 ∧ a.2.1 < b.2.1
def arcsOk (n : Int) (es : List T3) : Prop := (∀ i, i < es.length → okArc n (es.getD i z3)) ∧ ∀ i, i + 1 < es.length → ltArc (es.getD i z3) (es.getD (i + 1) z3)
/-- a valid network. -/
def NetOk (N : Net) : Prop := (2 ≤ N.n ∧ N.n ≤ 12) ∧ (0 ≤ N.s ∧ N.s ≤ N.n - 1) ∧ (0 ≤ N.t ∧ N.t ≤ N.n - 1) ∧ N.s ≠ N.t ∧ arcsOk (N.n - 1) N.arcs ∧ N.arcs.length ≤ 24
theorem cmp_lt (a b : T3) : (0 ≤ (if cmp3 a.1 b.1 = 0 then cmp3 a.2.1 b.2.1 else cmp3 a.1 b.1)) ↔ ¬ ltArc a b := by
  unfold ltArc cmp3
  by_cases h1 : a.1 < b.1
  · simp [h1]
  · by_cases h2 : b.1 < a.1
    · simp [h1, h2]; omega
    · by_cases h3 : a.2.1 < b.2.1
      · simp [h1, h2, h3]; omega
      · by_cases h4 : b.2.1 < a.2.1 <;> simp [h1, h2, h3, h4] <;> omega
theorem wrap_pred {n : Int} (h : R64 n) : (2 ≤ n → IntKind.i64.wrap (n - 1) = n - 1) ∧ R64 (IntKind.i64.wrap (n - 1)) := by
  unfold R64 at *; rw [IntKind.wrap_i64]; omega
theorem impl_ValidNetwork_ok {G : GH} {N : Net} {A : Option Addr} {c : Nat} (h : T3S G A c N.arcs) (hr : R64 N.n) (hl : N.arcs.length < 2 ^ 40) {K : Value → GH → Prop}
    (hk : ∀ b : Bool, (b = true ↔ NetOk N) → K (.bool b) G) : GC Try.prog 189 [netV N A c] G K := by
  refine GC_drop (c_impl_ValidNetwork_i (by simp) ?_)
  obtain ⟨hw1, hw2⟩ := wrap_pred hr
  unfold R64 at hw2
  unfold netV netC
  simp (maxSteps := 300000) (disch := omega) only [gs, gs2, gs3, ↓reduceIte, Nat.reduceEqDiff, Nat.mul_one, Nat.add_zero, Nat.zero_add, Nat.zero_mul, Int.toNat_natCast, Int.reduceToNat, Nat.reduceMul, Nat.reduceAdd, decide_true, decide_false, Bool.not_true, Bool.not_false, true_and, and_true, List.map_cons, List.map_nil, List.nil_append, List.cons_append, List.append_nil, Option.map_some, Option.bind_some, List.getElem?_cons_zero, List.getElem?_cons_succ, Bool.false_eq_true, not_true_eq_false, not_false_eq_true, List.contains_cons, List.contains_nil, Nat.reduceBEq, Bool.true_or, Bool.false_or, Bool.or_true, List.set_cons_zero, List.set_cons_succ, List.length_cons, List.length_nil, isLd, Bool.true_and, Bool.false_and, Bool.and_true, Bool.and_false]
  intro b1 hb1
  have hs := Sub.put hb1 ⟨netC N A c, true⟩
  unfold netC at hs
  simp (maxSteps := 300000) (disch := omega) only [gs, gs2, gs3, ↓reduceIte, Nat.reduceEqDiff, Nat.mul_one, Nat.add_zero, Nat.zero_add, Nat.zero_mul, Int.toNat_natCast, Int.reduceToNat, Nat.reduceMul, Nat.reduceAdd, decide_true, decide_false, Bool.not_true, Bool.not_false, true_and, and_true, List.map_cons, List.map_nil, List.nil_append, List.cons_append, List.append_nil, Option.map_some, Option.bind_some, List.getElem?_cons_zero, List.getElem?_cons_succ, Bool.false_eq_true, not_true_eq_false, not_false_eq_true, List.contains_cons, List.contains_nil, Nat.reduceBEq, Bool.true_or, Bool.false_or, Bool.or_true, List.set_cons_zero, List.set_cons_succ, List.length_cons, List.length_nil, isLd, Bool.true_and, Bool.false_and, Bool.and_true, Bool.and_false]
  have hno : ¬ NetOk N → ∃ G'', Sub G'' (put G b1 ⟨[.int .i64 N.n, .int .i64 N.s, .int .i64 N.t, .slice A N.arcs.length c], true⟩) ∧ K (.bool false) G'' := fun hn => ⟨G, hs, hk false (by simp [hn])⟩
  refine gLoop_intro (fun m T G' => ∃ k : Nat, T 1 = .pointer (some ⟨b1, 0, none⟩) ∧ T 6 = .slice A N.arcs.length c ∧ T 7 = .int .i64 N.arcs.length ∧ T 8 = .int .i64 k ∧ m + k = N.arcs.length ∧ k ≤ N.arcs.length ∧
    G' = put G b1 ⟨[.int .i64 N.n, .int .i64 N.s, .int .i64 N.t, .slice A N.arcs.length c], true⟩ ∧ (∀ i, i < k → okArc (IntKind.i64.wrap (N.n - 1)) (N.arcs.getD i z3)) ∧ ∀ i, i + 1 < k → ltArc (N.arcs.getD i z3) (N.arcs.getD (i + 1) z3)) N.arcs.length
    ⟨0, by simp (maxSteps := 300000) (disch := omega) only [gs, gs2, gs3, ↓reduceIte, Nat.reduceEqDiff, Nat.mul_one, Nat.add_zero, Nat.zero_add, Nat.zero_mul, Int.toNat_natCast, Int.reduceToNat, Nat.reduceMul, Nat.reduceAdd, decide_true, decide_false, Bool.not_true, Bool.not_false, true_and, and_true, List.map_cons, List.map_nil, List.nil_append, List.cons_append, List.append_nil, Option.map_some, Option.bind_some, List.getElem?_cons_zero, List.getElem?_cons_succ, Bool.false_eq_true, not_true_eq_false, not_false_eq_true, List.contains_cons, List.contains_nil, Nat.reduceBEq, Bool.true_or, Bool.false_or, Bool.or_true, List.set_cons_zero, List.set_cons_succ, List.length_cons, List.length_nil, isLd, Bool.true_and, Bool.false_and, Bool.and_true, Bool.and_false], by simp (maxSteps := 300000) (disch := omega) only [gs, gs2, gs3, ↓reduceIte, Nat.reduceEqDiff, Nat.mul_one, Nat.add_zero, Nat.zero_add, Nat.zero_mul, Int.toNat_natCast, Int.reduceToNat, Nat.reduceMul, Nat.reduceAdd, decide_true, decide_false, Bool.not_true, Bool.not_false, true_and, and_true, List.map_cons, List.map_nil, List.nil_append, List.cons_append, List.append_nil, Option.map_some, Option.bind_some, List.getElem?_cons_zero, List.getElem?_cons_succ, Bool.false_eq_true, not_true_eq_false, not_false_eq_true, List.contains_cons, List.contains_nil, Nat.reduceBEq, Bool.true_or, Bool.false_or, Bool.or_true, List.set_cons_zero, List.set_cons_succ, List.length_cons, List.length_nil, isLd, Bool.true_and, Bool.false_and, Bool.and_true, Bool.and_false], by simp (maxSteps := 300000) (disch := omega) only [gs, gs2, gs3, ↓reduceIte, Nat.reduceEqDiff, Nat.mul_one, Nat.add_zero, Nat.zero_add, Nat.zero_mul, Int.toNat_natCast, Int.reduceToNat, Nat.reduceMul, Nat.reduceAdd, decide_true, decide_false, Bool.not_true, Bool.not_false, true_and, and_true, List.map_cons, List.map_nil, List.nil_append, List.cons_append, List.append_nil, Option.map_some, Option.bind_some, List.getElem?_cons_zero, List.getElem?_cons_succ, Bool.false_eq_true, not_true_eq_false, not_false_eq_true, List.contains_cons, List.contains_nil, Nat.reduceBEq, Bool.true_or, Bool.false_or, Bool.or_true, List.set_cons_zero, List.set_cons_succ, List.length_cons, List.length_nil, isLd, Bool.true_and, Bool.false_and, Bool.and_true, Bool.and_false], by simp (maxSteps := 300000) (disch := omega) only [gs, gs2, gs3, ↓reduceIte, Nat.reduceEqDiff, Nat.mul_one, Nat.add_zero, Nat.zero_add, Nat.zero_mul, Int.toNat_natCast, Int.reduceToNat, Nat.reduceMul, Nat.reduceAdd, decide_true, decide_false, Bool.not_true, Bool.not_false, true_and, and_true, List.map_cons, List.map_nil, List.nil_append, List.cons_append, List.append_nil, Option.map_some, Option.bind_some, List.getElem?_cons_zero, List.getElem?_cons_succ, Bool.false_eq_true, not_true_eq_false, not_false_eq_true, List.contains_cons, List.contains_nil, Nat.reduceBEq, Bool.true_or, Bool.false_or, Bool.or_true, List.set_cons_zero, List.set_cons_succ, List.length_cons, List.length_nil, isLd, Bool.true_and, Bool.false_and, Bool.and_true, Bool.and_false] <;> rfl, by omega, by omega, rfl, fun i hi => by omega, fun i hi => by omega⟩ ?_
  rintro m T G' ⟨k, e1, e6, e7, e8, hm, hkl, rfl, hok, hlt⟩
  have hh := h.sub hs
  have hsn := hh.sn
  have p0 := hh.r0
  have p1 := hh.r1
  have p2 := hh.r2
  simp (maxSteps := 300000) (disch := omega) only [gs, gs2, gs3, ↓reduceIte, Nat.reduceEqDiff, Nat.mul_one, Nat.add_zero, Nat.zero_add, Nat.zero_mul, Int.toNat_natCast, Int.reduceToNat, Nat.reduceMul, Nat.reduceAdd, decide_true, decide_false, Bool.not_true, Bool.not_false, true_and, and_true, List.map_cons, List.map_nil, List.nil_append, List.cons_append, List.append_nil, Option.map_some, Option.bind_some, List.getElem?_cons_zero, List.getElem?_cons_succ, Bool.false_eq_true, not_true_eq_false, not_false_eq_true, List.contains_cons, List.contains_nil, Nat.reduceBEq, Bool.true_or, Bool.false_or, Bool.or_true, List.set_cons_zero, List.set_cons_succ, List.length_cons, List.length_nil, isLd, Bool.true_and, Bool.false_and, Bool.and_true, Bool.and_false, e1, e6, e7, e8]
  by_cases hkk : (k : Int) < N.arcs.length
  · simp (maxSteps := 300000) (disch := omega) only [gs, gs2, gs3, ↓reduceIte, Nat.reduceEqDiff, Nat.mul_one, Nat.add_zero, Nat.zero_add, Nat.zero_mul, Int.toNat_natCast, Int.reduceToNat, Nat.reduceMul, Nat.reduceAdd, decide_true, decide_false, Bool.not_true, Bool.not_false, true_and, and_true, List.map_cons, List.map_nil, List.nil_append, List.cons_append, List.append_nil, Option.map_some, Option.bind_some, List.getElem?_cons_zero, List.getElem?_cons_succ, Bool.false_eq_true, not_true_eq_false, not_false_eq_true, List.contains_cons, List.contains_nil, Nat.reduceBEq, Bool.true_or, Bool.false_or, Bool.or_true, List.set_cons_zero, List.set_cons_succ, List.length_cons, List.length_nil, isLd, Bool.true_and, Bool.false_and, Bool.and_true, Bool.and_false, e1, e6, e7, e8, hkk, p0, p1, p2]
    intro b4 hb4
    have s4 := Sub.put hb4 ⟨c3 (N.arcs.getD k z3), true⟩
    have q4 := hb4
    simp only [put_none] at q4
    simp (maxSteps := 300000) (disch := omega) only [gs, gs2, gs3, ↓reduceIte, Nat.reduceEqDiff, Nat.mul_one, Nat.add_zero, Nat.zero_add, Nat.zero_mul, Int.toNat_natCast, Int.reduceToNat, Nat.reduceMul, Nat.reduceAdd, decide_true, decide_false, Bool.not_true, Bool.not_false, true_and, and_true, List.map_cons, List.map_nil, List.nil_append, List.cons_append, List.append_nil, Option.map_some, Option.bind_some, List.getElem?_cons_zero, List.getElem?_cons_succ, Bool.false_eq_true, not_true_eq_false, not_false_eq_true, List.contains_cons, List.contains_nil, Nat.reduceBEq, Bool.true_or, Bool.false_or, Bool.or_true, List.set_cons_zero, List.set_cons_succ, List.length_cons, List.length_nil, isLd, Bool.true_and, Bool.false_and, Bool.and_true, Bool.and_false, e1, e6, e7, e8]
    refine st_many (vs := c3 (N.arcs.getD k z3)) rfl (put_same _ _ _) rfl (by simp) (c3_one _) ?_
    have hh4 := hh.sub s4
    have o0 := hh4.r0
    have o1 := hh4.r1
    have hb : ∀ (b : Bool), (∃ G'', Sub G'' (put G b1 ⟨[.int .i64 N.n, .int .i64 N.s, .int .i64 N.t, .slice A N.arcs.length c], true⟩) ∧ K (.bool b) G'') →
        ∃ G'', Sub G'' (put (put G b1 ⟨[.int .i64 N.n, .int .i64 N.s, .int .i64 N.t, .slice A N.arcs.length c], true⟩) b4 ⟨c3 (N.arcs.getD k z3), true⟩) ∧ K (.bool b) G'' := fun b ⟨G'', s, hk'⟩ => ⟨G'', s.trans s4, hk'⟩
    have hno' : ¬ okArc (N.n - 1) (N.arcs.getD k z3) → ¬ NetOk N := fun h1 h2 => h1 (h2.2.2.2.2.1.1 k (by omega))
    unfold c3 at o0 o1 hb ⊢
    simp (maxSteps := 300000) (disch := omega) only [gs, gs2, gs3, ↓reduceIte, Nat.reduceEqDiff, Nat.mul_one, Nat.add_zero, Nat.zero_add, Nat.zero_mul, Int.toNat_natCast, Int.reduceToNat, Nat.reduceMul, Nat.reduceAdd, decide_true, decide_false, Bool.not_true, Bool.not_false, true_and, and_true, List.map_cons, List.map_nil, List.nil_append, List.cons_append, List.append_nil, Option.map_some, Option.bind_some, List.getElem?_cons_zero, List.getElem?_cons_succ, Bool.false_eq_true, not_true_eq_false, not_false_eq_true, List.contains_cons, List.contains_nil, Nat.reduceBEq, Bool.true_or, Bool.false_or, Bool.or_true, List.set_cons_zero, List.set_cons_succ, List.length_cons, List.length_nil, isLd, Bool.true_and, Bool.false_and, Bool.and_true, Bool.and_false, over, e1, e6, e7, e8]
    refine impl_isElement_ok _ _ ?_
    simp (maxSteps := 300000) (disch := omega) only [gs, gs2, gs3, ↓reduceIte, Nat.reduceEqDiff, Nat.mul_one, Nat.add_zero, Nat.zero_add, Nat.zero_mul, Int.toNat_natCast, Int.reduceToNat, Nat.reduceMul, Nat.reduceAdd, decide_true, decide_false, Bool.not_true, Bool.not_false, true_and, and_true, List.map_cons, List.map_nil, List.nil_append, List.cons_append, List.append_nil, Option.map_some, Option.bind_some, List.getElem?_cons_zero, List.getElem?_cons_succ, Bool.false_eq_true, not_true_eq_false, not_false_eq_true, List.contains_cons, List.contains_nil, Nat.reduceBEq, Bool.true_or, Bool.false_or, Bool.or_true, List.set_cons_zero, List.set_cons_succ, List.length_cons, List.length_nil, isLd, Bool.true_and, Bool.false_and, Bool.and_true, Bool.and_false, e1, e6, e7, e8]
    cases g1 : decide (0 ≤ (N.arcs.getD k z3).1 ∧ (N.arcs.getD k z3).1 ≤ IntKind.i64.wrap (N.n - 1))
    · simp (maxSteps := 300000) (disch := omega) only [gs, gs2, gs3, ↓reduceIte, Nat.reduceEqDiff, Nat.mul_one, Nat.add_zero, Nat.zero_add, Nat.zero_mul, Int.toNat_natCast, Int.reduceToNat, Nat.reduceMul, Nat.reduceAdd, decide_true, decide_false, Bool.not_true, Bool.not_false, true_and, and_true, List.map_cons, List.map_nil, List.nil_append, List.cons_append, List.append_nil, Option.map_some, Option.bind_some, List.getElem?_cons_zero, List.getElem?_cons_succ, Bool.false_eq_true, not_true_eq_false, not_false_eq_true, List.contains_cons, List.contains_nil, Nat.reduceBEq, Bool.true_or, Bool.false_or, Bool.or_true, List.set_cons_zero, List.set_cons_succ, List.length_cons, List.length_nil, isLd, Bool.true_and, Bool.false_and, Bool.and_true, Bool.and_false]
      have g1 := of_decide_eq_false g1
      exact hb _ (hno fun hn => hno' (fun hq => g1 (by rw [hw1 hn.1.1]; exact hq.1)) hn)
    have g1 := of_decide_eq_true g1
    simp (maxSteps := 300000) (disch := omega) only [gs, gs2, gs3, ↓reduceIte, Nat.reduceEqDiff, Nat.mul_one, Nat.add_zero, Nat.zero_add, Nat.zero_mul, Int.toNat_natCast, Int.reduceToNat, Nat.reduceMul, Nat.reduceAdd, decide_true, decide_false, Bool.not_true, Bool.not_false, true_and, and_true, List.map_cons, List.map_nil, List.nil_append, List.cons_append, List.append_nil, Option.map_some, Option.bind_some, List.getElem?_cons_zero, List.getElem?_cons_succ, Bool.false_eq_true, not_true_eq_false, not_false_eq_true, List.contains_cons, List.contains_nil, Nat.reduceBEq, Bool.true_or, Bool.false_or, Bool.or_true, List.set_cons_zero, List.set_cons_succ, List.length_cons, List.length_nil, isLd, Bool.true_and, Bool.false_and, Bool.and_true, Bool.and_false, e1]
    refine impl_isElement_ok _ _ ?_
    simp (maxSteps := 300000) (disch := omega) only [gs, gs2, gs3, ↓reduceIte, Nat.reduceEqDiff, Nat.mul_one, Nat.add_zero, Nat.zero_add, Nat.zero_mul, Int.toNat_natCast, Int.reduceToNat, Nat.reduceMul, Nat.reduceAdd, decide_true, decide_false, Bool.not_true, Bool.not_false, true_and, and_true, List.map_cons, List.map_nil, List.nil_append, List.cons_append, List.append_nil, Option.map_some, Option.bind_some, List.getElem?_cons_zero, List.getElem?_cons_succ, Bool.false_eq_true, not_true_eq_false, not_false_eq_true, List.contains_cons, List.contains_nil, Nat.reduceBEq, Bool.true_or, Bool.false_or, Bool.or_true, List.set_cons_zero, List.set_cons_succ, List.length_cons, List.length_nil, isLd, Bool.true_and, Bool.false_and, Bool.and_true, Bool.and_false, e1, e6, e7, e8]
    cases g2 : decide (0 ≤ (N.arcs.getD k z3).2.1 ∧ (N.arcs.getD k z3).2.1 ≤ IntKind.i64.wrap (N.n - 1))
    · simp (maxSteps := 300000) (disch := omega) only [gs, gs2, gs3, ↓reduceIte, Nat.reduceEqDiff, Nat.mul_one, Nat.add_zero, Nat.zero_add, Nat.zero_mul, Int.toNat_natCast, Int.reduceToNat, Nat.reduceMul, Nat.reduceAdd, decide_true, decide_false, Bool.not_true, Bool.not_false, true_and, and_true, List.map_cons, List.map_nil, List.nil_append, List.cons_append, List.append_nil, Option.map_some, Option.bind_some, List.getElem?_cons_zero, List.getElem?_cons_succ, Bool.false_eq_true, not_true_eq_false, not_false_eq_true, List.contains_cons, List.contains_nil, Nat.reduceBEq, Bool.true_or, Bool.false_or, Bool.or_true, List.set_cons_zero, List.set_cons_succ, List.length_cons, List.length_nil, isLd, Bool.true_and, Bool.false_and, Bool.and_true, Bool.and_false]
      have g2 := of_decide_eq_false g2
      exact hb _ (hno fun hn => hno' (fun hq => g2 (by rw [hw1 hn.1.1]; exact hq.2.1)) hn)
    have g2 := of_decide_eq_true g2
    simp (maxSteps := 300000) (disch := omega) only [gs, gs2, gs3, ↓reduceIte, Nat.reduceEqDiff, Nat.mul_one, Nat.add_zero, Nat.zero_add, Nat.zero_mul, Int.toNat_natCast, Int.reduceToNat, Nat.reduceMul, Nat.reduceAdd, decide_true, decide_false, Bool.not_true, Bool.not_false, true_and, and_true, List.map_cons, List.map_nil, List.nil_append, List.cons_append, List.append_nil, Option.map_some, Option.bind_some, List.getElem?_cons_zero, List.getElem?_cons_succ, Bool.false_eq_true, not_true_eq_false, not_false_eq_true, List.contains_cons, List.contains_nil, Nat.reduceBEq, Bool.true_or, Bool.false_or, Bool.or_true, List.set_cons_zero, List.set_cons_succ, List.length_cons, List.length_nil, isLd, Bool.true_and, Bool.false_and, Bool.and_true, Bool.and_false, e1]
    by_cases g3 : (N.arcs.getD k z3).1 = (N.arcs.getD k z3).2.1
    · simp (maxSteps := 300000) (disch := omega) only [gs, gs2, gs3, ↓reduceIte, Nat.reduceEqDiff, Nat.mul_one, Nat.add_zero, Nat.zero_add, Nat.zero_mul, Int.toNat_natCast, Int.reduceToNat, Nat.reduceMul, Nat.reduceAdd, decide_true, decide_false, Bool.not_true, Bool.not_false, true_and, and_true, List.map_cons, List.map_nil, List.nil_append, List.cons_append, List.append_nil, Option.map_some, Option.bind_some, List.getElem?_cons_zero, List.getElem?_cons_succ, Bool.false_eq_true, not_true_eq_false, not_false_eq_true, List.contains_cons, List.contains_nil, Nat.reduceBEq, Bool.true_or, Bool.false_or, Bool.or_true, List.set_cons_zero, List.set_cons_succ, List.length_cons, List.length_nil, isLd, Bool.true_and, Bool.false_and, Bool.and_true, Bool.and_false, eq_true g3]
      exact hb _ (hno fun hn => hno' (fun hq => hq.2.2.1 g3) hn)
    rw [show decide ((N.arcs.getD k z3).1 = (N.arcs.getD k z3).2.1) = false from decide_eq_false g3]
    simp (maxSteps := 300000) (disch := omega) only [gs, gs2, gs3, ↓reduceIte, Nat.reduceEqDiff, Nat.mul_one, Nat.add_zero, Nat.zero_add, Nat.zero_mul, Int.toNat_natCast, Int.reduceToNat, Nat.reduceMul, Nat.reduceAdd, decide_true, decide_false, Bool.not_true, Bool.not_false, true_and, and_true, List.map_cons, List.map_nil, List.nil_append, List.cons_append, List.append_nil, Option.map_some, Option.bind_some, List.getElem?_cons_zero, List.getElem?_cons_succ, Bool.false_eq_true, not_true_eq_false, not_false_eq_true, List.contains_cons, List.contains_nil, Nat.reduceBEq, Bool.true_or, Bool.false_or, Bool.or_true, List.set_cons_zero, List.set_cons_succ, List.length_cons, List.length_nil, isLd, Bool.true_and, Bool.false_and, Bool.and_true, Bool.and_false, e1]
    refine impl_within_ok _ _ _ ?_
    simp (maxSteps := 300000) (disch := omega) only [gs, gs2, gs3, ↓reduceIte, Nat.reduceEqDiff, Nat.mul_one, Nat.add_zero, Nat.zero_add, Nat.zero_mul, Int.toNat_natCast, Int.reduceToNat, Nat.reduceMul, Nat.reduceAdd, decide_true, decide_false, Bool.not_true, Bool.not_false, true_and, and_true, List.map_cons, List.map_nil, List.nil_append, List.cons_append, List.append_nil, Option.map_some, Option.bind_some, List.getElem?_cons_zero, List.getElem?_cons_succ, Bool.false_eq_true, not_true_eq_false, not_false_eq_true, List.contains_cons, List.contains_nil, Nat.reduceBEq, Bool.true_or, Bool.false_or, Bool.or_true, List.set_cons_zero, List.set_cons_succ, List.length_cons, List.length_nil, isLd, Bool.true_and, Bool.false_and, Bool.and_true, Bool.and_false, e1, e6, e7, e8]
    cases g4 : decide (0 ≤ (N.arcs.getD k z3).2.2 ∧ (N.arcs.getD k z3).2.2 ≤ 1000000)
    · simp (maxSteps := 300000) (disch := omega) only [gs, gs2, gs3, ↓reduceIte, Nat.reduceEqDiff, Nat.mul_one, Nat.add_zero, Nat.zero_add, Nat.zero_mul, Int.toNat_natCast, Int.reduceToNat, Nat.reduceMul, Nat.reduceAdd, decide_true, decide_false, Bool.not_true, Bool.not_false, true_and, and_true, List.map_cons, List.map_nil, List.nil_append, List.cons_append, List.append_nil, Option.map_some, Option.bind_some, List.getElem?_cons_zero, List.getElem?_cons_succ, Bool.false_eq_true, not_true_eq_false, not_false_eq_true, List.contains_cons, List.contains_nil, Nat.reduceBEq, Bool.true_or, Bool.false_or, Bool.or_true, List.set_cons_zero, List.set_cons_succ, List.length_cons, List.length_nil, isLd, Bool.true_and, Bool.false_and, Bool.and_true, Bool.and_false]
      have g4 := of_decide_eq_false g4
      exact hb _ (hno fun hn => hno' (fun hq => g4 hq.2.2.2) hn)
    have g4 := of_decide_eq_true g4
    have hok' : ∀ i, i < k + 1 → okArc (IntKind.i64.wrap (N.n - 1)) (N.arcs.getD i z3) := fun i hi => by
      by_cases hik : i = k
      · subst hik; exact ⟨g1, g2, g3, g4⟩
      · exact hok i (by omega)
    simp (maxSteps := 300000) (disch := omega) only [gs, gs2, gs3, ↓reduceIte, Nat.reduceEqDiff, Nat.mul_one, Nat.add_zero, Nat.zero_add, Nat.zero_mul, Int.toNat_natCast, Int.reduceToNat, Nat.reduceMul, Nat.reduceAdd, decide_true, decide_false, Bool.not_true, Bool.not_false, true_and, and_true, List.map_cons, List.map_nil, List.nil_append, List.cons_append, List.append_nil, Option.map_some, Option.bind_some, List.getElem?_cons_zero, List.getElem?_cons_succ, Bool.false_eq_true, not_true_eq_false, not_false_eq_true, List.contains_cons, List.contains_nil, Nat.reduceBEq, Bool.true_or, Bool.false_or, Bool.or_true, List.set_cons_zero, List.set_cons_succ, List.length_cons, List.length_nil, isLd, Bool.true_and, Bool.false_and, Bool.and_true, Bool.and_false, e1, e8]
    by_cases hk0 : (0 : Int) < k
    · simp (maxSteps := 300000) (disch := omega) only [gs, gs2, gs3, ↓reduceIte, Nat.reduceEqDiff, Nat.mul_one, Nat.add_zero, Nat.zero_add, Nat.zero_mul, Int.toNat_natCast, Int.reduceToNat, Nat.reduceMul, Nat.reduceAdd, decide_true, decide_false, Bool.not_true, Bool.not_false, true_and, and_true, List.map_cons, List.map_nil, List.nil_append, List.cons_append, List.append_nil, Option.map_some, Option.bind_some, List.getElem?_cons_zero, List.getElem?_cons_succ, Bool.false_eq_true, not_true_eq_false, not_false_eq_true, List.contains_cons, List.contains_nil, Nat.reduceBEq, Bool.true_or, Bool.false_or, Bool.or_true, List.set_cons_zero, List.set_cons_succ, List.length_cons, List.length_nil, isLd, Bool.true_and, Bool.false_and, Bool.and_true, Bool.and_false, hk0, e1, e6, e7, e8, o0, o1]
      refine cmp_Compare_ok _ _ ?_
      simp (maxSteps := 300000) (disch := omega) only [gs, gs2, gs3, ↓reduceIte, Nat.reduceEqDiff, Nat.mul_one, Nat.add_zero, Nat.zero_add, Nat.zero_mul, Int.toNat_natCast, Int.reduceToNat, Nat.reduceMul, Nat.reduceAdd, decide_true, decide_false, Bool.not_true, Bool.not_false, true_and, and_true, List.map_cons, List.map_nil, List.nil_append, List.cons_append, List.append_nil, Option.map_some, Option.bind_some, List.getElem?_cons_zero, List.getElem?_cons_succ, Bool.false_eq_true, not_true_eq_false, not_false_eq_true, List.contains_cons, List.contains_nil, Nat.reduceBEq, Bool.true_or, Bool.false_or, Bool.or_true, List.set_cons_zero, List.set_cons_succ, List.length_cons, List.length_nil, isLd, Bool.true_and, Bool.false_and, Bool.and_true, Bool.and_false, e1, e6, e7, e8, o0, o1]
      refine cmp_Compare_ok _ _ ?_
      simp (maxSteps := 300000) (disch := omega) only [gs, gs2, gs3, ↓reduceIte, Nat.reduceEqDiff, Nat.mul_one, Nat.add_zero, Nat.zero_add, Nat.zero_mul, Int.toNat_natCast, Int.reduceToNat, Nat.reduceMul, Nat.reduceAdd, decide_true, decide_false, Bool.not_true, Bool.not_false, true_and, and_true, List.map_cons, List.map_nil, List.nil_append, List.cons_append, List.append_nil, Option.map_some, Option.bind_some, List.getElem?_cons_zero, List.getElem?_cons_succ, Bool.false_eq_true, not_true_eq_false, not_false_eq_true, List.contains_cons, List.contains_nil, Nat.reduceBEq, Bool.true_or, Bool.false_or, Bool.or_true, List.set_cons_zero, List.set_cons_succ, List.length_cons, List.length_nil, isLd, Bool.true_and, Bool.false_and, Bool.and_true, Bool.and_false, e1, e6, e7, e8, o0, o1, gBs]
      refine ⟨by intro v hv; simp at hv; rcases hv with rfl | rfl <;> rfl, fun b5 hb5 => ?_⟩
      have s5 := Sub.put hb5 ⟨[.int .i64 (cmp3 (N.arcs.getD ((k : Int) - 1).toNat z3).1 (N.arcs.getD k z3).1), .int .i64 (cmp3 (N.arcs.getD ((k : Int) - 1).toNat z3).2.1 (N.arcs.getD k z3).2.1)], true⟩
      have q5 := hb5
      simp only [put_none] at q5
      have hh5 := hh4.sub s5
      have u0 := hh5.r0
      have u1 := hh5.r1
      simp only [List.flatMap_cons, List.flatMap_nil, cells_int, List.append_nil, List.cons_append, List.nil_append]
      simp (maxSteps := 300000) (disch := omega) only [gs, gs2, gs3, ↓reduceIte, Nat.reduceEqDiff, Nat.mul_one, Nat.add_zero, Nat.zero_add, Nat.zero_mul, Int.toNat_natCast, Int.reduceToNat, Nat.reduceMul, Nat.reduceAdd, decide_true, decide_false, Bool.not_true, Bool.not_false, true_and, and_true, List.map_cons, List.map_nil, List.nil_append, List.cons_append, List.append_nil, Option.map_some, Option.bind_some, List.getElem?_cons_zero, List.getElem?_cons_succ, Bool.false_eq_true, not_true_eq_false, not_false_eq_true, List.contains_cons, List.contains_nil, Nat.reduceBEq, Bool.true_or, Bool.false_or, Bool.or_true, List.set_cons_zero, List.set_cons_succ, List.length_cons, List.length_nil, isLd, Bool.true_and, Bool.false_and, Bool.and_true, Bool.and_false, e1, e6, e7, e8, u0, u1]
      refine cmp_Or_ok (cmp3 (N.arcs.getD ((k : Int) - 1).toNat z3).1 (N.arcs.getD k z3).1) (cmp3 (N.arcs.getD ((k : Int) - 1).toNat z3).2.1 (N.arcs.getD k z3).2.1) (by simp (maxSteps := 300000) (disch := omega) only [gs, gs2, gs3, ↓reduceIte, Nat.reduceEqDiff, Nat.mul_one, Nat.add_zero, Nat.zero_add, Nat.zero_mul, Int.toNat_natCast, Int.reduceToNat, Nat.reduceMul, Nat.reduceAdd, decide_true, decide_false, Bool.not_true, Bool.not_false, true_and, and_true, List.map_cons, List.map_nil, List.nil_append, List.cons_append, List.append_nil, Option.map_some, Option.bind_some, List.getElem?_cons_zero, List.getElem?_cons_succ, Bool.false_eq_true, not_true_eq_false, not_false_eq_true, List.contains_cons, List.contains_nil, Nat.reduceBEq, Bool.true_or, Bool.false_or, Bool.or_true, List.set_cons_zero, List.set_cons_succ, List.length_cons, List.length_nil, isLd, Bool.true_and, Bool.false_and, Bool.and_true, Bool.and_false]) (by simp (maxSteps := 300000) (disch := omega) only [gs, gs2, gs3, ↓reduceIte, Nat.reduceEqDiff, Nat.mul_one, Nat.add_zero, Nat.zero_add, Nat.zero_mul, Int.toNat_natCast, Int.reduceToNat, Nat.reduceMul, Nat.reduceAdd, decide_true, decide_false, Bool.not_true, Bool.not_false, true_and, and_true, List.map_cons, List.map_nil, List.nil_append, List.cons_append, List.append_nil, Option.map_some, Option.bind_some, List.getElem?_cons_zero, List.getElem?_cons_succ, Bool.false_eq_true, not_true_eq_false, not_false_eq_true, List.contains_cons, List.contains_nil, Nat.reduceBEq, Bool.true_or, Bool.false_or, Bool.or_true, List.set_cons_zero, List.set_cons_succ, List.length_cons, List.length_nil, isLd, Bool.true_and, Bool.false_and, Bool.and_true, Bool.and_false]) ?_
      simp (maxSteps := 300000) (disch := omega) only [gs, gs2, gs3, ↓reduceIte, Nat.reduceEqDiff, Nat.mul_one, Nat.add_zero, Nat.zero_add, Nat.zero_mul, Int.toNat_natCast, Int.reduceToNat, Nat.reduceMul, Nat.reduceAdd, decide_true, decide_false, Bool.not_true, Bool.not_false, true_and, and_true, List.map_cons, List.map_nil, List.nil_append, List.cons_append, List.append_nil, Option.map_some, Option.bind_some, List.getElem?_cons_zero, List.getElem?_cons_succ, Bool.false_eq_true, not_true_eq_false, not_false_eq_true, List.contains_cons, List.contains_nil, Nat.reduceBEq, Bool.true_or, Bool.false_or, Bool.or_true, List.set_cons_zero, List.set_cons_succ, List.length_cons, List.length_nil, isLd, Bool.true_and, Bool.false_and, Bool.and_true, Bool.and_false, e1, e6, e7, e8, u0, u1]
      have hcl := cmp_lt (N.arcs.getD ((k : Int) - 1).toNat z3) (N.arcs.getD k z3)
      generalize (if cmp3 (N.arcs.getD ((k : Int) - 1).toNat z3).1 (N.arcs.getD k z3).1 = 0 then cmp3 (N.arcs.getD ((k : Int) - 1).toNat z3).2.1 (N.arcs.getD k z3).2.1 else cmp3 (N.arcs.getD ((k : Int) - 1).toNat z3).1 (N.arcs.getD k z3).1) = cc at hcl ⊢
      by_cases hc : 0 ≤ cc
      · simp (maxSteps := 300000) (disch := omega) only [gs, gs2, gs3, ↓reduceIte, Nat.reduceEqDiff, Nat.mul_one, Nat.add_zero, Nat.zero_add, Nat.zero_mul, Int.toNat_natCast, Int.reduceToNat, Nat.reduceMul, Nat.reduceAdd, decide_true, decide_false, Bool.not_true, Bool.not_false, true_and, and_true, List.map_cons, List.map_nil, List.nil_append, List.cons_append, List.append_nil, Option.map_some, Option.bind_some, List.getElem?_cons_zero, List.getElem?_cons_succ, Bool.false_eq_true, not_true_eq_false, not_false_eq_true, List.contains_cons, List.contains_nil, Nat.reduceBEq, Bool.true_or, Bool.false_or, Bool.or_true, List.set_cons_zero, List.set_cons_succ, List.length_cons, List.length_nil, isLd, Bool.true_and, Bool.false_and, Bool.and_true, Bool.and_false, hc]
        have hnl := hcl.1 hc
        obtain ⟨G'', s, hk'⟩ := hb _ (hno fun hn => hnl (by have := hn.2.2.2.2.1.2 (k - 1) (by omega); rwa [show k - 1 + 1 = k by omega, show k - 1 = ((k : Int) - 1).toNat by omega] at this))
        exact ⟨G'', s.trans s5, hk'⟩
      · simp (maxSteps := 300000) (disch := omega) only [gs, gs2, gs3, ↓reduceIte, Nat.reduceEqDiff, Nat.mul_one, Nat.add_zero, Nat.zero_add, Nat.zero_mul, Int.toNat_natCast, Int.reduceToNat, Nat.reduceMul, Nat.reduceAdd, decide_true, decide_false, Bool.not_true, Bool.not_false, true_and, and_true, List.map_cons, List.map_nil, List.nil_append, List.cons_append, List.append_nil, Option.map_some, Option.bind_some, List.getElem?_cons_zero, List.getElem?_cons_succ, Bool.false_eq_true, not_true_eq_false, not_false_eq_true, List.contains_cons, List.contains_nil, Nat.reduceBEq, Bool.true_or, Bool.false_or, Bool.or_true, List.set_cons_zero, List.set_cons_succ, List.length_cons, List.length_nil, isLd, Bool.true_and, Bool.false_and, Bool.and_true, Bool.and_false, hc, e1, e6, e7, e8]
        have hl' : ltArc (N.arcs.getD ((k : Int) - 1).toNat z3) (N.arcs.getD k z3) := Classical.byContradiction fun hn => hc (hcl.2 hn)
        refine ⟨m - 1, by omega, _, s4.trans s5, k + 1, rfl, by omega, by omega, rfl, hok', fun i hi => ?_⟩
        by_cases hik : i + 1 = k
        · rw [hik, show i = ((k : Int) - 1).toNat by omega]; exact hl'
        · exact hlt i (by omega)
    · simp (maxSteps := 300000) (disch := omega) only [gs, gs2, gs3, ↓reduceIte, Nat.reduceEqDiff, Nat.mul_one, Nat.add_zero, Nat.zero_add, Nat.zero_mul, Int.toNat_natCast, Int.reduceToNat, Nat.reduceMul, Nat.reduceAdd, decide_true, decide_false, Bool.not_true, Bool.not_false, true_and, and_true, List.map_cons, List.map_nil, List.nil_append, List.cons_append, List.append_nil, Option.map_some, Option.bind_some, List.getElem?_cons_zero, List.getElem?_cons_succ, Bool.false_eq_true, not_true_eq_false, not_false_eq_true, List.contains_cons, List.contains_nil, Nat.reduceBEq, Bool.true_or, Bool.false_or, Bool.or_true, List.set_cons_zero, List.set_cons_succ, List.length_cons, List.length_nil, isLd, Bool.true_and, Bool.false_and, Bool.and_true, Bool.and_false, hk0, e1, e6, e7, e8]
      exact ⟨m - 1, by omega, _, s4, k + 1, rfl, by omega, by omega, rfl, hok', fun i hi => by omega⟩
  · simp (maxSteps := 300000) (disch := omega) only [gs, gs2, gs3, ↓reduceIte, Nat.reduceEqDiff, Nat.mul_one, Nat.add_zero, Nat.zero_add, Nat.zero_mul, Int.toNat_natCast, Int.reduceToNat, Nat.reduceMul, Nat.reduceAdd, decide_true, decide_false, Bool.not_true, Bool.not_false, true_and, and_true, List.map_cons, List.map_nil, List.nil_append, List.cons_append, List.append_nil, Option.map_some, Option.bind_some, List.getElem?_cons_zero, List.getElem?_cons_succ, Bool.false_eq_true, not_true_eq_false, not_false_eq_true, List.contains_cons, List.contains_nil, Nat.reduceBEq, Bool.true_or, Bool.false_or, Bool.or_true, List.set_cons_zero, List.set_cons_succ, List.length_cons, List.length_nil, isLd, Bool.true_and, Bool.false_and, Bool.and_true, Bool.and_false, e1, e6, e7, e8, hkk]
    refine impl_within_ok _ _ _ ?_
    simp (maxSteps := 300000) (disch := omega) only [gs, gs2, gs3, ↓reduceIte, Nat.reduceEqDiff, Nat.mul_one, Nat.add_zero, Nat.zero_add, Nat.zero_mul, Int.toNat_natCast, Int.reduceToNat, Nat.reduceMul, Nat.reduceAdd, decide_true, decide_false, Bool.not_true, Bool.not_false, true_and, and_true, List.map_cons, List.map_nil, List.nil_append, List.cons_append, List.append_nil, Option.map_some, Option.bind_some, List.getElem?_cons_zero, List.getElem?_cons_succ, Bool.false_eq_true, not_true_eq_false, not_false_eq_true, List.contains_cons, List.contains_nil, Nat.reduceBEq, Bool.true_or, Bool.false_or, Bool.or_true, List.set_cons_zero, List.set_cons_succ, List.length_cons, List.length_nil, isLd, Bool.true_and, Bool.false_and, Bool.and_true, Bool.and_false, e1]
    cases g1 : decide (2 ≤ N.n ∧ N.n ≤ 12)
    · simp (maxSteps := 300000) (disch := omega) only [gs, gs2, gs3, ↓reduceIte, Nat.reduceEqDiff, Nat.mul_one, Nat.add_zero, Nat.zero_add, Nat.zero_mul, Int.toNat_natCast, Int.reduceToNat, Nat.reduceMul, Nat.reduceAdd, decide_true, decide_false, Bool.not_true, Bool.not_false, true_and, and_true, List.map_cons, List.map_nil, List.nil_append, List.cons_append, List.append_nil, Option.map_some, Option.bind_some, List.getElem?_cons_zero, List.getElem?_cons_succ, Bool.false_eq_true, not_true_eq_false, not_false_eq_true, List.contains_cons, List.contains_nil, Nat.reduceBEq, Bool.true_or, Bool.false_or, Bool.or_true, List.set_cons_zero, List.set_cons_succ, List.length_cons, List.length_nil, isLd, Bool.true_and, Bool.false_and, Bool.and_true, Bool.and_false]
      have g1 := of_decide_eq_false g1
      exact hno fun hn => g1 hn.1
    have g1 := of_decide_eq_true g1
    rw [hw1 g1.1] at hok
    simp (maxSteps := 300000) (disch := omega) only [gs, gs2, gs3, ↓reduceIte, Nat.reduceEqDiff, Nat.mul_one, Nat.add_zero, Nat.zero_add, Nat.zero_mul, Int.toNat_natCast, Int.reduceToNat, Nat.reduceMul, Nat.reduceAdd, decide_true, decide_false, Bool.not_true, Bool.not_false, true_and, and_true, List.map_cons, List.map_nil, List.nil_append, List.cons_append, List.append_nil, Option.map_some, Option.bind_some, List.getElem?_cons_zero, List.getElem?_cons_succ, Bool.false_eq_true, not_true_eq_false, not_false_eq_true, List.contains_cons, List.contains_nil, Nat.reduceBEq, Bool.true_or, Bool.false_or, Bool.or_true, List.set_cons_zero, List.set_cons_succ, List.length_cons, List.length_nil, isLd, Bool.true_and, Bool.false_and, Bool.and_true, Bool.and_false, e1]
    refine impl_isElement_ok _ _ ?_
    rw [hw1 g1.1]
    simp (maxSteps := 300000) (disch := omega) only [gs, gs2, gs3, ↓reduceIte, Nat.reduceEqDiff, Nat.mul_one, Nat.add_zero, Nat.zero_add, Nat.zero_mul, Int.toNat_natCast, Int.reduceToNat, Nat.reduceMul, Nat.reduceAdd, decide_true, decide_false, Bool.not_true, Bool.not_false, true_and, and_true, List.map_cons, List.map_nil, List.nil_append, List.cons_append, List.append_nil, Option.map_some, Option.bind_some, List.getElem?_cons_zero, List.getElem?_cons_succ, Bool.false_eq_true, not_true_eq_false, not_false_eq_true, List.contains_cons, List.contains_nil, Nat.reduceBEq, Bool.true_or, Bool.false_or, Bool.or_true, List.set_cons_zero, List.set_cons_succ, List.length_cons, List.length_nil, isLd, Bool.true_and, Bool.false_and, Bool.and_true, Bool.and_false, e1]
    cases g2 : decide (0 ≤ N.s ∧ N.s ≤ N.n - 1)
    · simp (maxSteps := 300000) (disch := omega) only [gs, gs2, gs3, ↓reduceIte, Nat.reduceEqDiff, Nat.mul_one, Nat.add_zero, Nat.zero_add, Nat.zero_mul, Int.toNat_natCast, Int.reduceToNat, Nat.reduceMul, Nat.reduceAdd, decide_true, decide_false, Bool.not_true, Bool.not_false, true_and, and_true, List.map_cons, List.map_nil, List.nil_append, List.cons_append, List.append_nil, Option.map_some, Option.bind_some, List.getElem?_cons_zero, List.getElem?_cons_succ, Bool.false_eq_true, not_true_eq_false, not_false_eq_true, List.contains_cons, List.contains_nil, Nat.reduceBEq, Bool.true_or, Bool.false_or, Bool.or_true, List.set_cons_zero, List.set_cons_succ, List.length_cons, List.length_nil, isLd, Bool.true_and, Bool.false_and, Bool.and_true, Bool.and_false]
      have g2 := of_decide_eq_false g2
      exact hno fun hn => g2 hn.2.1
    have g2 := of_decide_eq_true g2
    simp (maxSteps := 300000) (disch := omega) only [gs, gs2, gs3, ↓reduceIte, Nat.reduceEqDiff, Nat.mul_one, Nat.add_zero, Nat.zero_add, Nat.zero_mul, Int.toNat_natCast, Int.reduceToNat, Nat.reduceMul, Nat.reduceAdd, decide_true, decide_false, Bool.not_true, Bool.not_false, true_and, and_true, List.map_cons, List.map_nil, List.nil_append, List.cons_append, List.append_nil, Option.map_some, Option.bind_some, List.getElem?_cons_zero, List.getElem?_cons_succ, Bool.false_eq_true, not_true_eq_false, not_false_eq_true, List.contains_cons, List.contains_nil, Nat.reduceBEq, Bool.true_or, Bool.false_or, Bool.or_true, List.set_cons_zero, List.set_cons_succ, List.length_cons, List.length_nil, isLd, Bool.true_and, Bool.false_and, Bool.and_true, Bool.and_false, e1]
    refine impl_isElement_ok _ _ ?_
    rw [hw1 g1.1]
    simp (maxSteps := 300000) (disch := omega) only [gs, gs2, gs3, ↓reduceIte, Nat.reduceEqDiff, Nat.mul_one, Nat.add_zero, Nat.zero_add, Nat.zero_mul, Int.toNat_natCast, Int.reduceToNat, Nat.reduceMul, Nat.reduceAdd, decide_true, decide_false, Bool.not_true, Bool.not_false, true_and, and_true, List.map_cons, List.map_nil, List.nil_append, List.cons_append, List.append_nil, Option.map_some, Option.bind_some, List.getElem?_cons_zero, List.getElem?_cons_succ, Bool.false_eq_true, not_true_eq_false, not_false_eq_true, List.contains_cons, List.contains_nil, Nat.reduceBEq, Bool.true_or, Bool.false_or, Bool.or_true, List.set_cons_zero, List.set_cons_succ, List.length_cons, List.length_nil, isLd, Bool.true_and, Bool.false_and, Bool.and_true, Bool.and_false, e1]
    cases g3 : decide (0 ≤ N.t ∧ N.t ≤ N.n - 1)
    · simp (maxSteps := 300000) (disch := omega) only [gs, gs2, gs3, ↓reduceIte, Nat.reduceEqDiff, Nat.mul_one, Nat.add_zero, Nat.zero_add, Nat.zero_mul, Int.toNat_natCast, Int.reduceToNat, Nat.reduceMul, Nat.reduceAdd, decide_true, decide_false, Bool.not_true, Bool.not_false, true_and, and_true, List.map_cons, List.map_nil, List.nil_append, List.cons_append, List.append_nil, Option.map_some, Option.bind_some, List.getElem?_cons_zero, List.getElem?_cons_succ, Bool.false_eq_true, not_true_eq_false, not_false_eq_true, List.contains_cons, List.contains_nil, Nat.reduceBEq, Bool.true_or, Bool.false_or, Bool.or_true, List.set_cons_zero, List.set_cons_succ, List.length_cons, List.length_nil, isLd, Bool.true_and, Bool.false_and, Bool.and_true, Bool.and_false]
      have g3 := of_decide_eq_false g3
      exact hno fun hn => g3 hn.2.2.1
    have g3 := of_decide_eq_true g3
    simp (maxSteps := 300000) (disch := omega) only [gs, gs2, gs3, ↓reduceIte, Nat.reduceEqDiff, Nat.mul_one, Nat.add_zero, Nat.zero_add, Nat.zero_mul, Int.toNat_natCast, Int.reduceToNat, Nat.reduceMul, Nat.reduceAdd, decide_true, decide_false, Bool.not_true, Bool.not_false, true_and, and_true, List.map_cons, List.map_nil, List.nil_append, List.cons_append, List.append_nil, Option.map_some, Option.bind_some, List.getElem?_cons_zero, List.getElem?_cons_succ, Bool.false_eq_true, not_true_eq_false, not_false_eq_true, List.contains_cons, List.contains_nil, Nat.reduceBEq, Bool.true_or, Bool.false_or, Bool.or_true, List.set_cons_zero, List.set_cons_succ, List.length_cons, List.length_nil, isLd, Bool.true_and, Bool.false_and, Bool.and_true, Bool.and_false, e1]
    cases g4 : decide (¬ N.s = N.t)
    · simp (maxSteps := 300000) (disch := omega) only [gs, gs2, gs3, ↓reduceIte, Nat.reduceEqDiff, Nat.mul_one, Nat.add_zero, Nat.zero_add, Nat.zero_mul, Int.toNat_natCast, Int.reduceToNat, Nat.reduceMul, Nat.reduceAdd, decide_true, decide_false, Bool.not_true, Bool.not_false, true_and, and_true, List.map_cons, List.map_nil, List.nil_append, List.cons_append, List.append_nil, Option.map_some, Option.bind_some, List.getElem?_cons_zero, List.getElem?_cons_succ, Bool.false_eq_true, not_true_eq_false, not_false_eq_true, List.contains_cons, List.contains_nil, Nat.reduceBEq, Bool.true_or, Bool.false_or, Bool.or_true, List.set_cons_zero, List.set_cons_succ, List.length_cons, List.length_nil, isLd, Bool.true_and, Bool.false_and, Bool.and_true, Bool.and_false]
      have g4 := of_decide_eq_false g4
      exact hno fun hn => g4 hn.2.2.2.1
    have g4 := of_decide_eq_true g4
    simp (maxSteps := 300000) (disch := omega) only [gs, gs2, gs3, ↓reduceIte, Nat.reduceEqDiff, Nat.mul_one, Nat.add_zero, Nat.zero_add, Nat.zero_mul, Int.toNat_natCast, Int.reduceToNat, Nat.reduceMul, Nat.reduceAdd, decide_true, decide_false, Bool.not_true, Bool.not_false, true_and, and_true, List.map_cons, List.map_nil, List.nil_append, List.cons_append, List.append_nil, Option.map_some, Option.bind_some, List.getElem?_cons_zero, List.getElem?_cons_succ, Bool.false_eq_true, not_true_eq_false, not_false_eq_true, List.contains_cons, List.contains_nil, Nat.reduceBEq, Bool.true_or, Bool.false_or, Bool.or_true, List.set_cons_zero, List.set_cons_succ, List.length_cons, List.length_nil, isLd, Bool.true_and, Bool.false_and, Bool.and_true, Bool.and_false, e1]
    refine ⟨G, hs, hk _ ?_⟩
    rw [decide_eq_true_eq]
    constructor
    · intro h24
      exact ⟨g1, g2, g3, g4, ⟨fun i hi => hok i (by omega), fun i hi => hlt i (by omega)⟩, by omega⟩
    · intro hn
      have := hn.2.2.2.2.2
      omega
/-- a pointer to a network. -/
structure NetP (G : GH) (q : Option Addr) (N : Net) (A : Option Addr) (c : Nat) : Prop where
  f0 : rd G q = some (.int .i64 N.n)
  f1 : rd G (pa q 1) = some (.int .i64 N.s)
  f2 : rd G (pa q 2) = some (.int .i64 N.t)
  f3 : rd G (pa q 3) = some (.slice A N.arcs.length c)
  arcs : T3S G A c N.arcs
theorem NetP.sub {G G' : GH} {q : Option Addr} {N : Net} {A : Option Addr} {c : Nat} (h : NetP G q N A c) (s : Sub G G') : NetP G' q N A c := ⟨rd_sub s h.f0, rd_sub s h.f1, rd_sub s h.f2, rd_sub s h.f3, h.arcs.sub s⟩
theorem NetP.box {G : GH} {b : Nat} (hb : G b = none) {N : Net} {A : Option Addr} {c : Nat} (h : T3S G A c N.arcs) : NetP (put G b ⟨netC N A c, true⟩) (some ⟨b, 0, none⟩) N A c :=
  ⟨by rw [rd_put]; rfl, by rw [pa_mk, rd_put]; rfl, by rw [pa_mk, rd_put]; rfl, by rw [pa_mk, rd_put]; rfl, h.sub (Sub.put hb _)⟩
theorem spec_l19Ok_ok {G : GH} {q : Option Addr} {N : Net} {A : Option Addr} {c : Nat} (h : NetP G q N A c) (hr : R64 N.n) (hl : N.arcs.length < 2 ^ 40) {K : Value → GH → Prop}
    (hk : ∀ b : Bool, (b = true ↔ NetOk N) → K (.bool b) G) : GC Try.prog 185 [.pointer q] G K := by
  refine GC_drop (c_spec_l19Ok_i (by simp) ?_)
  have hq := rd_some h.f0
  have f0 := h.f0
  have f1 := h.f1
  have f2 := h.f2
  have f3 := h.f3
  unfold R64 at hr
  have hno : ¬ NetOk N → ∃ G'', Sub G'' G ∧ K (.bool false) G'' := fun hn => ⟨G, Sub.refl G, hk false (by simp [hn])⟩
  simp (maxSteps := 300000) (disch := omega) only [gs, gs2, gs3, ↓reduceIte, Nat.reduceEqDiff, Nat.mul_one, Nat.add_zero, Nat.zero_add, Nat.zero_mul, Int.toNat_natCast, Int.reduceToNat, Nat.reduceMul, Nat.reduceAdd, decide_true, decide_false, Bool.not_true, Bool.not_false, true_and, and_true, List.map_cons, List.map_nil, List.nil_append, List.cons_append, List.append_nil, Option.map_some, Option.bind_some, List.getElem?_cons_zero, List.getElem?_cons_succ, Bool.false_eq_true, not_true_eq_false, not_false_eq_true, List.contains_cons, List.contains_nil, Nat.reduceBEq, Bool.true_or, Bool.false_or, Bool.or_true, List.set_cons_zero, List.set_cons_succ, List.length_cons, List.length_nil, isLd, Bool.true_and, Bool.false_and, Bool.and_true, Bool.and_false, f0]
  refine spec_l00In_ok _ _ _ ?_
  simp (maxSteps := 300000) (disch := omega) only [gs, gs2, gs3, ↓reduceIte, Nat.reduceEqDiff, Nat.mul_one, Nat.add_zero, Nat.zero_add, Nat.zero_mul, Int.toNat_natCast, Int.reduceToNat, Nat.reduceMul, Nat.reduceAdd, decide_true, decide_false, Bool.not_true, Bool.not_false, true_and, and_true, List.map_cons, List.map_nil, List.nil_append, List.cons_append, List.append_nil, Option.map_some, Option.bind_some, List.getElem?_cons_zero, List.getElem?_cons_succ, Bool.false_eq_true, not_true_eq_false, not_false_eq_true, List.contains_cons, List.contains_nil, Nat.reduceBEq, Bool.true_or, Bool.false_or, Bool.or_true, List.set_cons_zero, List.set_cons_succ, List.length_cons, List.length_nil, isLd, Bool.true_and, Bool.false_and, Bool.and_true, Bool.and_false, f0]
  cases g1 : decide (2 ≤ N.n ∧ N.n ≤ 12)
  · simp (maxSteps := 300000) (disch := omega) only [gs, gs2, gs3, ↓reduceIte, Nat.reduceEqDiff, Nat.mul_one, Nat.add_zero, Nat.zero_add, Nat.zero_mul, Int.toNat_natCast, Int.reduceToNat, Nat.reduceMul, Nat.reduceAdd, decide_true, decide_false, Bool.not_true, Bool.not_false, true_and, and_true, List.map_cons, List.map_nil, List.nil_append, List.cons_append, List.append_nil, Option.map_some, Option.bind_some, List.getElem?_cons_zero, List.getElem?_cons_succ, Bool.false_eq_true, not_true_eq_false, not_false_eq_true, List.contains_cons, List.contains_nil, Nat.reduceBEq, Bool.true_or, Bool.false_or, Bool.or_true, List.set_cons_zero, List.set_cons_succ, List.length_cons, List.length_nil, isLd, Bool.true_and, Bool.false_and, Bool.and_true, Bool.and_false, f0, f1, f2]
    have g1 := of_decide_eq_false g1
    exact hno fun hn => g1 hn.1
  have g1 := of_decide_eq_true g1
  simp (maxSteps := 300000) (disch := omega) only [gs, gs2, gs3, ↓reduceIte, Nat.reduceEqDiff, Nat.mul_one, Nat.add_zero, Nat.zero_add, Nat.zero_mul, Int.toNat_natCast, Int.reduceToNat, Nat.reduceMul, Nat.reduceAdd, decide_true, decide_false, Bool.not_true, Bool.not_false, true_and, and_true, List.map_cons, List.map_nil, List.nil_append, List.cons_append, List.append_nil, Option.map_some, Option.bind_some, List.getElem?_cons_zero, List.getElem?_cons_succ, Bool.false_eq_true, not_true_eq_false, not_false_eq_true, List.contains_cons, List.contains_nil, Nat.reduceBEq, Bool.true_or, Bool.false_or, Bool.or_true, List.set_cons_zero, List.set_cons_succ, List.length_cons, List.length_nil, isLd, Bool.true_and, Bool.false_and, Bool.and_true, Bool.and_false, f0, f1]
  refine spec_l00In_ok _ _ _ ?_
  simp (maxSteps := 300000) (disch := omega) only [gs, gs2, gs3, ↓reduceIte, Nat.reduceEqDiff, Nat.mul_one, Nat.add_zero, Nat.zero_add, Nat.zero_mul, Int.toNat_natCast, Int.reduceToNat, Nat.reduceMul, Nat.reduceAdd, decide_true, decide_false, Bool.not_true, Bool.not_false, true_and, and_true, List.map_cons, List.map_nil, List.nil_append, List.cons_append, List.append_nil, Option.map_some, Option.bind_some, List.getElem?_cons_zero, List.getElem?_cons_succ, Bool.false_eq_true, not_true_eq_false, not_false_eq_true, List.contains_cons, List.contains_nil, Nat.reduceBEq, Bool.true_or, Bool.false_or, Bool.or_true, List.set_cons_zero, List.set_cons_succ, List.length_cons, List.length_nil, isLd, Bool.true_and, Bool.false_and, Bool.and_true, Bool.and_false, f0, f1]
  cases g2 : decide (0 ≤ N.s ∧ N.s ≤ N.n - 1)
  · simp (maxSteps := 300000) (disch := omega) only [gs, gs2, gs3, ↓reduceIte, Nat.reduceEqDiff, Nat.mul_one, Nat.add_zero, Nat.zero_add, Nat.zero_mul, Int.toNat_natCast, Int.reduceToNat, Nat.reduceMul, Nat.reduceAdd, decide_true, decide_false, Bool.not_true, Bool.not_false, true_and, and_true, List.map_cons, List.map_nil, List.nil_append, List.cons_append, List.append_nil, Option.map_some, Option.bind_some, List.getElem?_cons_zero, List.getElem?_cons_succ, Bool.false_eq_true, not_true_eq_false, not_false_eq_true, List.contains_cons, List.contains_nil, Nat.reduceBEq, Bool.true_or, Bool.false_or, Bool.or_true, List.set_cons_zero, List.set_cons_succ, List.length_cons, List.length_nil, isLd, Bool.true_and, Bool.false_and, Bool.and_true, Bool.and_false, f0, f1, f2]
    have g2 := of_decide_eq_false g2
    exact hno fun hn => g2 hn.2.1
  have g2 := of_decide_eq_true g2
  simp (maxSteps := 300000) (disch := omega) only [gs, gs2, gs3, ↓reduceIte, Nat.reduceEqDiff, Nat.mul_one, Nat.add_zero, Nat.zero_add, Nat.zero_mul, Int.toNat_natCast, Int.reduceToNat, Nat.reduceMul, Nat.reduceAdd, decide_true, decide_false, Bool.not_true, Bool.not_false, true_and, and_true, List.map_cons, List.map_nil, List.nil_append, List.cons_append, List.append_nil, Option.map_some, Option.bind_some, List.getElem?_cons_zero, List.getElem?_cons_succ, Bool.false_eq_true, not_true_eq_false, not_false_eq_true, List.contains_cons, List.contains_nil, Nat.reduceBEq, Bool.true_or, Bool.false_or, Bool.or_true, List.set_cons_zero, List.set_cons_succ, List.length_cons, List.length_nil, isLd, Bool.true_and, Bool.false_and, Bool.and_true, Bool.and_false, f0, f1, f2]
  refine spec_l00In_ok _ _ _ ?_
  simp (maxSteps := 300000) (disch := omega) only [gs, gs2, gs3, ↓reduceIte, Nat.reduceEqDiff, Nat.mul_one, Nat.add_zero, Nat.zero_add, Nat.zero_mul, Int.toNat_natCast, Int.reduceToNat, Nat.reduceMul, Nat.reduceAdd, decide_true, decide_false, Bool.not_true, Bool.not_false, true_and, and_true, List.map_cons, List.map_nil, List.nil_append, List.cons_append, List.append_nil, Option.map_some, Option.bind_some, List.getElem?_cons_zero, List.getElem?_cons_succ, Bool.false_eq_true, not_true_eq_false, not_false_eq_true, List.contains_cons, List.contains_nil, Nat.reduceBEq, Bool.true_or, Bool.false_or, Bool.or_true, List.set_cons_zero, List.set_cons_succ, List.length_cons, List.length_nil, isLd, Bool.true_and, Bool.false_and, Bool.and_true, Bool.and_false, f0, f1, f2]
  cases g3 : decide (0 ≤ N.t ∧ N.t ≤ N.n - 1)
  · simp (maxSteps := 300000) (disch := omega) only [gs, gs2, gs3, ↓reduceIte, Nat.reduceEqDiff, Nat.mul_one, Nat.add_zero, Nat.zero_add, Nat.zero_mul, Int.toNat_natCast, Int.reduceToNat, Nat.reduceMul, Nat.reduceAdd, decide_true, decide_false, Bool.not_true, Bool.not_false, true_and, and_true, List.map_cons, List.map_nil, List.nil_append, List.cons_append, List.append_nil, Option.map_some, Option.bind_some, List.getElem?_cons_zero, List.getElem?_cons_succ, Bool.false_eq_true, not_true_eq_false, not_false_eq_true, List.contains_cons, List.contains_nil, Nat.reduceBEq, Bool.true_or, Bool.false_or, Bool.or_true, List.set_cons_zero, List.set_cons_succ, List.length_cons, List.length_nil, isLd, Bool.true_and, Bool.false_and, Bool.and_true, Bool.and_false, f0, f1, f2]
    have g3 := of_decide_eq_false g3
    exact hno fun hn => g3 hn.2.2.1
  have g3 := of_decide_eq_true g3
  simp (maxSteps := 300000) (disch := omega) only [gs, gs2, gs3, ↓reduceIte, Nat.reduceEqDiff, Nat.mul_one, Nat.add_zero, Nat.zero_add, Nat.zero_mul, Int.toNat_natCast, Int.reduceToNat, Nat.reduceMul, Nat.reduceAdd, decide_true, decide_false, Bool.not_true, Bool.not_false, true_and, and_true, List.map_cons, List.map_nil, List.nil_append, List.cons_append, List.append_nil, Option.map_some, Option.bind_some, List.getElem?_cons_zero, List.getElem?_cons_succ, Bool.false_eq_true, not_true_eq_false, not_false_eq_true, List.contains_cons, List.contains_nil, Nat.reduceBEq, Bool.true_or, Bool.false_or, Bool.or_true, List.set_cons_zero, List.set_cons_succ, List.length_cons, List.length_nil, isLd, Bool.true_and, Bool.false_and, Bool.and_true, Bool.and_false, f0, f1, f2]
  by_cases g4 : N.s = N.t
  · simp (maxSteps := 300000) (disch := omega) only [gs, gs2, gs3, ↓reduceIte, Nat.reduceEqDiff, Nat.mul_one, Nat.add_zero, Nat.zero_add, Nat.zero_mul, Int.toNat_natCast, Int.reduceToNat, Nat.reduceMul, Nat.reduceAdd, decide_true, decide_false, Bool.not_true, Bool.not_false, true_and, and_true, List.map_cons, List.map_nil, List.nil_append, List.cons_append, List.append_nil, Option.map_some, Option.bind_some, List.getElem?_cons_zero, List.getElem?_cons_succ, Bool.false_eq_true, not_true_eq_false, not_false_eq_true, List.contains_cons, List.contains_nil, Nat.reduceBEq, Bool.true_or, Bool.false_or, Bool.or_true, List.set_cons_zero, List.set_cons_succ, List.length_cons, List.length_nil, isLd, Bool.true_and, Bool.false_and, Bool.and_true, Bool.and_false, eq_true g4, f0, f1, f2]
    exact hno fun hn => hn.2.2.2.1 g4
  rw [show decide (N.s = N.t) = false from decide_eq_false g4]
  simp (maxSteps := 300000) (disch := omega) only [gs, gs2, gs3, ↓reduceIte, Nat.reduceEqDiff, Nat.mul_one, Nat.add_zero, Nat.zero_add, Nat.zero_mul, Int.toNat_natCast, Int.reduceToNat, Nat.reduceMul, Nat.reduceAdd, decide_true, decide_false, Bool.not_true, Bool.not_false, true_and, and_true, List.map_cons, List.map_nil, List.nil_append, List.cons_append, List.append_nil, Option.map_some, Option.bind_some, List.getElem?_cons_zero, List.getElem?_cons_succ, Bool.false_eq_true, not_true_eq_false, not_false_eq_true, List.contains_cons, List.contains_nil, Nat.reduceBEq, Bool.true_or, Bool.false_or, Bool.or_true, List.set_cons_zero, List.set_cons_succ, List.length_cons, List.length_nil, isLd, Bool.true_and, Bool.false_and, Bool.and_true, Bool.and_false, f0, f1, f2]
  refine gLoop_intro (fun m T G' => ∃ k : Nat, T 0 = .pointer q ∧ T 3 = .int .i64 k ∧ m + k = N.arcs.length ∧ k ≤ N.arcs.length ∧ G' = G ∧ (∀ i, i < k → okArc (N.n - 1) (N.arcs.getD i z3)) ∧
    ∀ i, i + 1 < k → ltArc (N.arcs.getD i z3) (N.arcs.getD (i + 1) z3)) N.arcs.length ⟨0, by simp (maxSteps := 300000) (disch := omega) only [gs, gs2, gs3, ↓reduceIte, Nat.reduceEqDiff, Nat.mul_one, Nat.add_zero, Nat.zero_add, Nat.zero_mul, Int.toNat_natCast, Int.reduceToNat, Nat.reduceMul, Nat.reduceAdd, decide_true, decide_false, Bool.not_true, Bool.not_false, true_and, and_true, List.map_cons, List.map_nil, List.nil_append, List.cons_append, List.append_nil, Option.map_some, Option.bind_some, List.getElem?_cons_zero, List.getElem?_cons_succ, Bool.false_eq_true, not_true_eq_false, not_false_eq_true, List.contains_cons, List.contains_nil, Nat.reduceBEq, Bool.true_or, Bool.false_or, Bool.or_true, List.set_cons_zero, List.set_cons_succ, List.length_cons, List.length_nil, isLd, Bool.true_and, Bool.false_and, Bool.and_true, Bool.and_false], by simp (maxSteps := 300000) (disch := omega) only [gs, gs2, gs3, ↓reduceIte, Nat.reduceEqDiff, Nat.mul_one, Nat.add_zero, Nat.zero_add, Nat.zero_mul, Int.toNat_natCast, Int.reduceToNat, Nat.reduceMul, Nat.reduceAdd, decide_true, decide_false, Bool.not_true, Bool.not_false, true_and, and_true, List.map_cons, List.map_nil, List.nil_append, List.cons_append, List.append_nil, Option.map_some, Option.bind_some, List.getElem?_cons_zero, List.getElem?_cons_succ, Bool.false_eq_true, not_true_eq_false, not_false_eq_true, List.contains_cons, List.contains_nil, Nat.reduceBEq, Bool.true_or, Bool.false_or, Bool.or_true, List.set_cons_zero, List.set_cons_succ, List.length_cons, List.length_nil, isLd, Bool.true_and, Bool.false_and, Bool.and_true, Bool.and_false] <;> rfl, by omega, by omega, rfl, fun i hi => by omega, fun i hi => by omega⟩ ?_
  rintro m T G' ⟨k, e0, e3, hm, hkl, rfl, hok, hlt⟩
  have hsn := h.arcs.sn
  have p0 := h.arcs.r0
  have p1 := h.arcs.r1
  have p2 := h.arcs.r2
  simp (maxSteps := 300000) (disch := omega) only [gs, gs2, gs3, ↓reduceIte, Nat.reduceEqDiff, Nat.mul_one, Nat.add_zero, Nat.zero_add, Nat.zero_mul, Int.toNat_natCast, Int.reduceToNat, Nat.reduceMul, Nat.reduceAdd, decide_true, decide_false, Bool.not_true, Bool.not_false, true_and, and_true, List.map_cons, List.map_nil, List.nil_append, List.cons_append, List.append_nil, Option.map_some, Option.bind_some, List.getElem?_cons_zero, List.getElem?_cons_succ, Bool.false_eq_true, not_true_eq_false, not_false_eq_true, List.contains_cons, List.contains_nil, Nat.reduceBEq, Bool.true_or, Bool.false_or, Bool.or_true, List.set_cons_zero, List.set_cons_succ, List.length_cons, List.length_nil, isLd, Bool.true_and, Bool.false_and, Bool.and_true, Bool.and_false, e0, e3, f3]
  by_cases hkk : (k : Int) < N.arcs.length
  · simp (maxSteps := 300000) (disch := omega) only [gs, gs2, gs3, ↓reduceIte, Nat.reduceEqDiff, Nat.mul_one, Nat.add_zero, Nat.zero_add, Nat.zero_mul, Int.toNat_natCast, Int.reduceToNat, Nat.reduceMul, Nat.reduceAdd, decide_true, decide_false, Bool.not_true, Bool.not_false, true_and, and_true, List.map_cons, List.map_nil, List.nil_append, List.cons_append, List.append_nil, Option.map_some, Option.bind_some, List.getElem?_cons_zero, List.getElem?_cons_succ, Bool.false_eq_true, not_true_eq_false, not_false_eq_true, List.contains_cons, List.contains_nil, Nat.reduceBEq, Bool.true_or, Bool.false_or, Bool.or_true, List.set_cons_zero, List.set_cons_succ, List.length_cons, List.length_nil, isLd, Bool.true_and, Bool.false_and, Bool.and_true, Bool.and_false, e0, e3, f3, hkk, p0, p1, p2]
    intro b4 hb4
    have s4 := Sub.put hb4 ⟨c3 (N.arcs.getD k z3), true⟩
    simp (maxSteps := 300000) (disch := omega) only [gs, gs2, gs3, ↓reduceIte, Nat.reduceEqDiff, Nat.mul_one, Nat.add_zero, Nat.zero_add, Nat.zero_mul, Int.toNat_natCast, Int.reduceToNat, Nat.reduceMul, Nat.reduceAdd, decide_true, decide_false, Bool.not_true, Bool.not_false, true_and, and_true, List.map_cons, List.map_nil, List.nil_append, List.cons_append, List.append_nil, Option.map_some, Option.bind_some, List.getElem?_cons_zero, List.getElem?_cons_succ, Bool.false_eq_true, not_true_eq_false, not_false_eq_true, List.contains_cons, List.contains_nil, Nat.reduceBEq, Bool.true_or, Bool.false_or, Bool.or_true, List.set_cons_zero, List.set_cons_succ, List.length_cons, List.length_nil, isLd, Bool.true_and, Bool.false_and, Bool.and_true, Bool.and_false, e0, e3]
    refine st_many (vs := c3 (N.arcs.getD k z3)) rfl (put_same _ _ _) rfl (by simp) (c3_one _) ?_
    have h4 := h.sub s4
    have o0 := h4.arcs.r0
    have o1 := h4.arcs.r1
    have u0 := h4.f0
    have u3 := h4.f3
    have hb : ∀ (b : Bool), (∃ G'', Sub G'' G' ∧ K (.bool b) G'') → ∃ G'', Sub G'' (put G' b4 ⟨c3 (N.arcs.getD k z3), true⟩) ∧ K (.bool b) G'' := fun b ⟨G'', s, hk'⟩ => ⟨G'', s.trans s4, hk'⟩
    have hno' : ¬ okArc (N.n - 1) (N.arcs.getD k z3) → ¬ NetOk N := fun h1 h2 => h1 (h2.2.2.2.2.1.1 k (by omega))
    clear p0 p1 p2 h4 f0 f1 f2 f3
    unfold c3 at o0 o1 u0 u3 hb ⊢
    simp (maxSteps := 300000) (disch := omega) only [gs, gs2, gs3, ↓reduceIte, Nat.reduceEqDiff, Nat.mul_one, Nat.add_zero, Nat.zero_add, Nat.zero_mul, Int.toNat_natCast, Int.reduceToNat, Nat.reduceMul, Nat.reduceAdd, decide_true, decide_false, Bool.not_true, Bool.not_false, true_and, and_true, List.map_cons, List.map_nil, List.nil_append, List.cons_append, List.append_nil, Option.map_some, Option.bind_some, List.getElem?_cons_zero, List.getElem?_cons_succ, Bool.false_eq_true, not_true_eq_false, not_false_eq_true, List.contains_cons, List.contains_nil, Nat.reduceBEq, Bool.true_or, Bool.false_or, Bool.or_true, List.set_cons_zero, List.set_cons_succ, List.length_cons, List.length_nil, isLd, Bool.true_and, Bool.false_and, Bool.and_true, Bool.and_false, over, e0, e3, u0, u3, o0, o1]
    refine spec_l00In_ok _ _ _ ?_
    simp (maxSteps := 300000) (disch := omega) only [gs, gs2, gs3, ↓reduceIte, Nat.reduceEqDiff, Nat.mul_one, Nat.add_zero, Nat.zero_add, Nat.zero_mul, Int.toNat_natCast, Int.reduceToNat, Nat.reduceMul, Nat.reduceAdd, decide_true, decide_false, Bool.not_true, Bool.not_false, true_and, and_true, List.map_cons, List.map_nil, List.nil_append, List.cons_append, List.append_nil, Option.map_some, Option.bind_some, List.getElem?_cons_zero, List.getElem?_cons_succ, Bool.false_eq_true, not_true_eq_false, not_false_eq_true, List.contains_cons, List.contains_nil, Nat.reduceBEq, Bool.true_or, Bool.false_or, Bool.or_true, List.set_cons_zero, List.set_cons_succ, List.length_cons, List.length_nil, isLd, Bool.true_and, Bool.false_and, Bool.and_true, Bool.and_false, e0, e3, u0, u3, o0, o1]
    cases q1 : decide (0 ≤ (N.arcs.getD k z3).1 ∧ (N.arcs.getD k z3).1 ≤ N.n - 1)
    · simp (maxSteps := 300000) (disch := omega) only [gs, gs2, gs3, ↓reduceIte, Nat.reduceEqDiff, Nat.mul_one, Nat.add_zero, Nat.zero_add, Nat.zero_mul, Int.toNat_natCast, Int.reduceToNat, Nat.reduceMul, Nat.reduceAdd, decide_true, decide_false, Bool.not_true, Bool.not_false, true_and, and_true, List.map_cons, List.map_nil, List.nil_append, List.cons_append, List.append_nil, Option.map_some, Option.bind_some, List.getElem?_cons_zero, List.getElem?_cons_succ, Bool.false_eq_true, not_true_eq_false, not_false_eq_true, List.contains_cons, List.contains_nil, Nat.reduceBEq, Bool.true_or, Bool.false_or, Bool.or_true, List.set_cons_zero, List.set_cons_succ, List.length_cons, List.length_nil, isLd, Bool.true_and, Bool.false_and, Bool.and_true, Bool.and_false, e0, e3, u0, u3, o0, o1]
      have q1 := of_decide_eq_false q1
      exact hb _ (hno (hno' (fun hq => q1 hq.1)))
    have q1 := of_decide_eq_true q1
    simp (maxSteps := 300000) (disch := omega) only [gs, gs2, gs3, ↓reduceIte, Nat.reduceEqDiff, Nat.mul_one, Nat.add_zero, Nat.zero_add, Nat.zero_mul, Int.toNat_natCast, Int.reduceToNat, Nat.reduceMul, Nat.reduceAdd, decide_true, decide_false, Bool.not_true, Bool.not_false, true_and, and_true, List.map_cons, List.map_nil, List.nil_append, List.cons_append, List.append_nil, Option.map_some, Option.bind_some, List.getElem?_cons_zero, List.getElem?_cons_succ, Bool.false_eq_true, not_true_eq_false, not_false_eq_true, List.contains_cons, List.contains_nil, Nat.reduceBEq, Bool.true_or, Bool.false_or, Bool.or_true, List.set_cons_zero, List.set_cons_succ, List.length_cons, List.length_nil, isLd, Bool.true_and, Bool.false_and, Bool.and_true, Bool.and_false, e0, e3, u0, u3, o0, o1]
    refine spec_l00In_ok _ _ _ ?_
    simp (maxSteps := 300000) (disch := omega) only [gs, gs2, gs3, ↓reduceIte, Nat.reduceEqDiff, Nat.mul_one, Nat.add_zero, Nat.zero_add, Nat.zero_mul, Int.toNat_natCast, Int.reduceToNat, Nat.reduceMul, Nat.reduceAdd, decide_true, decide_false, Bool.not_true, Bool.not_false, true_and, and_true, List.map_cons, List.map_nil, List.nil_append, List.cons_append, List.append_nil, Option.map_some, Option.bind_some, List.getElem?_cons_zero, List.getElem?_cons_succ, Bool.false_eq_true, not_true_eq_false, not_false_eq_true, List.contains_cons, List.contains_nil, Nat.reduceBEq, Bool.true_or, Bool.false_or, Bool.or_true, List.set_cons_zero, List.set_cons_succ, List.length_cons, List.length_nil, isLd, Bool.true_and, Bool.false_and, Bool.and_true, Bool.and_false, e0, e3, u0, u3, o0, o1]
    cases q2 : decide (0 ≤ (N.arcs.getD k z3).2.1 ∧ (N.arcs.getD k z3).2.1 ≤ N.n - 1)
    · simp (maxSteps := 300000) (disch := omega) only [gs, gs2, gs3, ↓reduceIte, Nat.reduceEqDiff, Nat.mul_one, Nat.add_zero, Nat.zero_add, Nat.zero_mul, Int.toNat_natCast, Int.reduceToNat, Nat.reduceMul, Nat.reduceAdd, decide_true, decide_false, Bool.not_true, Bool.not_false, true_and, and_true, List.map_cons, List.map_nil, List.nil_append, List.cons_append, List.append_nil, Option.map_some, Option.bind_some, List.getElem?_cons_zero, List.getElem?_cons_succ, Bool.false_eq_true, not_true_eq_false, not_false_eq_true, List.contains_cons, List.contains_nil, Nat.reduceBEq, Bool.true_or, Bool.false_or, Bool.or_true, List.set_cons_zero, List.set_cons_succ, List.length_cons, List.length_nil, isLd, Bool.true_and, Bool.false_and, Bool.and_true, Bool.and_false, e0, e3, u0, u3, o0, o1]
      have q2 := of_decide_eq_false q2
      exact hb _ (hno (hno' (fun hq => q2 hq.2.1)))
    have q2 := of_decide_eq_true q2
    simp (maxSteps := 300000) (disch := omega) only [gs, gs2, gs3, ↓reduceIte, Nat.reduceEqDiff, Nat.mul_one, Nat.add_zero, Nat.zero_add, Nat.zero_mul, Int.toNat_natCast, Int.reduceToNat, Nat.reduceMul, Nat.reduceAdd, decide_true, decide_false, Bool.not_true, Bool.not_false, true_and, and_true, List.map_cons, List.map_nil, List.nil_append, List.cons_append, List.append_nil, Option.map_some, Option.bind_some, List.getElem?_cons_zero, List.getElem?_cons_succ, Bool.false_eq_true, not_true_eq_false, not_false_eq_true, List.contains_cons, List.contains_nil, Nat.reduceBEq, Bool.true_or, Bool.false_or, Bool.or_true, List.set_cons_zero, List.set_cons_succ, List.length_cons, List.length_nil, isLd, Bool.true_and, Bool.false_and, Bool.and_true, Bool.and_false, e0, e3, u0, u3, o0, o1]
    by_cases q3 : (N.arcs.getD k z3).1 = (N.arcs.getD k z3).2.1
    · simp (maxSteps := 300000) (disch := omega) only [gs, gs2, gs3, ↓reduceIte, Nat.reduceEqDiff, Nat.mul_one, Nat.add_zero, Nat.zero_add, Nat.zero_mul, Int.toNat_natCast, Int.reduceToNat, Nat.reduceMul, Nat.reduceAdd, decide_true, decide_false, Bool.not_true, Bool.not_false, true_and, and_true, List.map_cons, List.map_nil, List.nil_append, List.cons_append, List.append_nil, Option.map_some, Option.bind_some, List.getElem?_cons_zero, List.getElem?_cons_succ, Bool.false_eq_true, not_true_eq_false, not_false_eq_true, List.contains_cons, List.contains_nil, Nat.reduceBEq, Bool.true_or, Bool.false_or, Bool.or_true, List.set_cons_zero, List.set_cons_succ, List.length_cons, List.length_nil, isLd, Bool.true_and, Bool.false_and, Bool.and_true, Bool.and_false, eq_true q3, e0, e3, u0, u3, o0, o1]
      exact hb _ (hno (hno' (fun hq => hq.2.2.1 q3)))
    rw [show decide ((N.arcs.getD k z3).1 = (N.arcs.getD k z3).2.1) = false from decide_eq_false q3]
    simp (maxSteps := 300000) (disch := omega) only [gs, gs2, gs3, ↓reduceIte, Nat.reduceEqDiff, Nat.mul_one, Nat.add_zero, Nat.zero_add, Nat.zero_mul, Int.toNat_natCast, Int.reduceToNat, Nat.reduceMul, Nat.reduceAdd, decide_true, decide_false, Bool.not_true, Bool.not_false, true_and, and_true, List.map_cons, List.map_nil, List.nil_append, List.cons_append, List.append_nil, Option.map_some, Option.bind_some, List.getElem?_cons_zero, List.getElem?_cons_succ, Bool.false_eq_true, not_true_eq_false, not_false_eq_true, List.contains_cons, List.contains_nil, Nat.reduceBEq, Bool.true_or, Bool.false_or, Bool.or_true, List.set_cons_zero, List.set_cons_succ, List.length_cons, List.length_nil, isLd, Bool.true_and, Bool.false_and, Bool.and_true, Bool.and_false, e0, e3, u0, u3, o0, o1]
    refine spec_l00In_ok _ _ _ ?_
    simp (maxSteps := 300000) (disch := omega) only [gs, gs2, gs3, ↓reduceIte, Nat.reduceEqDiff, Nat.mul_one, Nat.add_zero, Nat.zero_add, Nat.zero_mul, Int.toNat_natCast, Int.reduceToNat, Nat.reduceMul, Nat.reduceAdd, decide_true, decide_false, Bool.not_true, Bool.not_false, true_and, and_true, List.map_cons, List.map_nil, List.nil_append, List.cons_append, List.append_nil, Option.map_some, Option.bind_some, List.getElem?_cons_zero, List.getElem?_cons_succ, Bool.false_eq_true, not_true_eq_false, not_false_eq_true, List.contains_cons, List.contains_nil, Nat.reduceBEq, Bool.true_or, Bool.false_or, Bool.or_true, List.set_cons_zero, List.set_cons_succ, List.length_cons, List.length_nil, isLd, Bool.true_and, Bool.false_and, Bool.and_true, Bool.and_false, e0, e3, u0, u3, o0, o1]
    cases q4 : decide (0 ≤ (N.arcs.getD k z3).2.2 ∧ (N.arcs.getD k z3).2.2 ≤ 1000000)
    · simp (maxSteps := 300000) (disch := omega) only [gs, gs2, gs3, ↓reduceIte, Nat.reduceEqDiff, Nat.mul_one, Nat.add_zero, Nat.zero_add, Nat.zero_mul, Int.toNat_natCast, Int.reduceToNat, Nat.reduceMul, Nat.reduceAdd, decide_true, decide_false, Bool.not_true, Bool.not_false, true_and, and_true, List.map_cons, List.map_nil, List.nil_append, List.cons_append, List.append_nil, Option.map_some, Option.bind_some, List.getElem?_cons_zero, List.getElem?_cons_succ, Bool.false_eq_true, not_true_eq_false, not_false_eq_true, List.contains_cons, List.contains_nil, Nat.reduceBEq, Bool.true_or, Bool.false_or, Bool.or_true, List.set_cons_zero, List.set_cons_succ, List.length_cons, List.length_nil, isLd, Bool.true_and, Bool.false_and, Bool.and_true, Bool.and_false, e0, e3, u0, u3, o0, o1]
      have q4 := of_decide_eq_false q4
      exact hb _ (hno (hno' (fun hq => q4 hq.2.2.2)))
    have q4 := of_decide_eq_true q4
    have hok' : ∀ i, i < k + 1 → okArc (N.n - 1) (N.arcs.getD i z3) := fun i hi => by
      by_cases hik : i = k
      · subst hik; exact ⟨q1, q2, q3, q4⟩
      · exact hok i (by omega)
    simp (maxSteps := 300000) (disch := omega) only [gs, gs2, gs3, ↓reduceIte, Nat.reduceEqDiff, Nat.mul_one, Nat.add_zero, Nat.zero_add, Nat.zero_mul, Int.toNat_natCast, Int.reduceToNat, Nat.reduceMul, Nat.reduceAdd, decide_true, decide_false, Bool.not_true, Bool.not_false, true_and, and_true, List.map_cons, List.map_nil, List.nil_append, List.cons_append, List.append_nil, Option.map_some, Option.bind_some, List.getElem?_cons_zero, List.getElem?_cons_succ, Bool.false_eq_true, not_true_eq_false, not_false_eq_true, List.contains_cons, List.contains_nil, Nat.reduceBEq, Bool.true_or, Bool.false_or, Bool.or_true, List.set_cons_zero, List.set_cons_succ, List.length_cons, List.length_nil, isLd, Bool.true_and, Bool.false_and, Bool.and_true, Bool.and_false, e0, e3, u0, u3, o0, o1]
    by_cases hk0 : (0 : Int) < k
    · simp (maxSteps := 300000) (disch := omega) only [gs, gs2, gs3, ↓reduceIte, Nat.reduceEqDiff, Nat.mul_one, Nat.add_zero, Nat.zero_add, Nat.zero_mul, Int.toNat_natCast, Int.reduceToNat, Nat.reduceMul, Nat.reduceAdd, decide_true, decide_false, Bool.not_true, Bool.not_false, true_and, and_true, List.map_cons, List.map_nil, List.nil_append, List.cons_append, List.append_nil, Option.map_some, Option.bind_some, List.getElem?_cons_zero, List.getElem?_cons_succ, Bool.false_eq_true, not_true_eq_false, not_false_eq_true, List.contains_cons, List.contains_nil, Nat.reduceBEq, Bool.true_or, Bool.false_or, Bool.or_true, List.set_cons_zero, List.set_cons_succ, List.length_cons, List.length_nil, isLd, Bool.true_and, Bool.false_and, Bool.and_true, Bool.and_false, hk0, e0, e3, u3, o0, o1, u0]
      have hord : ¬ ltArc (N.arcs.getD ((k : Int) - 1).toNat z3) (N.arcs.getD k z3) → ¬ NetOk N := fun hnl hn =>
        hnl (by have := hn.2.2.2.2.1.2 (k - 1) (by omega); rwa [show k - 1 + 1 = k by omega, show k - 1 = ((k : Int) - 1).toNat by omega] at this)
      have hgo : ltArc (N.arcs.getD ((k : Int) - 1).toNat z3) (N.arcs.getD k z3) → ∀ i, i + 1 < k + 1 → ltArc (N.arcs.getD i z3) (N.arcs.getD (i + 1) z3) := fun hl' i hi => by
        by_cases hik : i + 1 = k
        · rw [hik, show i = ((k : Int) - 1).toNat by omega]; exact hl'
        · exact hlt i (by omega)
      by_cases v1 : (N.arcs.getD k z3).1 < (N.arcs.getD ((k : Int) - 1).toNat z3).1
      · simp (maxSteps := 300000) (disch := omega) only [gs, gs2, gs3, ↓reduceIte, Nat.reduceEqDiff, Nat.mul_one, Nat.add_zero, Nat.zero_add, Nat.zero_mul, Int.toNat_natCast, Int.reduceToNat, Nat.reduceMul, Nat.reduceAdd, decide_true, decide_false, Bool.not_true, Bool.not_false, true_and, and_true, List.map_cons, List.map_nil, List.nil_append, List.cons_append, List.append_nil, Option.map_some, Option.bind_some, List.getElem?_cons_zero, List.getElem?_cons_succ, Bool.false_eq_true, not_true_eq_false, not_false_eq_true, List.contains_cons, List.contains_nil, Nat.reduceBEq, Bool.true_or, Bool.false_or, Bool.or_true, List.set_cons_zero, List.set_cons_succ, List.length_cons, List.length_nil, isLd, Bool.true_and, Bool.false_and, Bool.and_true, Bool.and_false, v1, e0, e3, u0, u3, o0, o1]
        exact hb _ (hno (hord (by unfold ltArc; omega)))
      simp (maxSteps := 300000) (disch := omega) only [gs, gs2, gs3, ↓reduceIte, Nat.reduceEqDiff, Nat.mul_one, Nat.add_zero, Nat.zero_add, Nat.zero_mul, Int.toNat_natCast, Int.reduceToNat, Nat.reduceMul, Nat.reduceAdd, decide_true, decide_false, Bool.not_true, Bool.not_false, true_and, and_true, List.map_cons, List.map_nil, List.nil_append, List.cons_append, List.append_nil, Option.map_some, Option.bind_some, List.getElem?_cons_zero, List.getElem?_cons_succ, Bool.false_eq_true, not_true_eq_false, not_false_eq_true, List.contains_cons, List.contains_nil, Nat.reduceBEq, Bool.true_or, Bool.false_or, Bool.or_true, List.set_cons_zero, List.set_cons_succ, List.length_cons, List.length_nil, isLd, Bool.true_and, Bool.false_and, Bool.and_true, Bool.and_false, v1, e0, e3, u3, o0, o1, u0]
      by_cases v2 : (N.arcs.getD ((k : Int) - 1).toNat z3).1 = (N.arcs.getD k z3).1
      · rw [show decide ((N.arcs.getD ((k : Int) - 1).toNat z3).1 = (N.arcs.getD k z3).1) = true from decide_eq_true v2]
        simp (maxSteps := 300000) (disch := omega) only [gs, gs2, gs3, ↓reduceIte, Nat.reduceEqDiff, Nat.mul_one, Nat.add_zero, Nat.zero_add, Nat.zero_mul, Int.toNat_natCast, Int.reduceToNat, Nat.reduceMul, Nat.reduceAdd, decide_true, decide_false, Bool.not_true, Bool.not_false, true_and, and_true, List.map_cons, List.map_nil, List.nil_append, List.cons_append, List.append_nil, Option.map_some, Option.bind_some, List.getElem?_cons_zero, List.getElem?_cons_succ, Bool.false_eq_true, not_true_eq_false, not_false_eq_true, List.contains_cons, List.contains_nil, Nat.reduceBEq, Bool.true_or, Bool.false_or, Bool.or_true, List.set_cons_zero, List.set_cons_succ, List.length_cons, List.length_nil, isLd, Bool.true_and, Bool.false_and, Bool.and_true, Bool.and_false, e0, e3, u3, o0, o1, u0]
        by_cases v3 : (N.arcs.getD k z3).2.1 ≤ (N.arcs.getD ((k : Int) - 1).toNat z3).2.1
        · simp (maxSteps := 300000) (disch := omega) only [gs, gs2, gs3, ↓reduceIte, Nat.reduceEqDiff, Nat.mul_one, Nat.add_zero, Nat.zero_add, Nat.zero_mul, Int.toNat_natCast, Int.reduceToNat, Nat.reduceMul, Nat.reduceAdd, decide_true, decide_false, Bool.not_true, Bool.not_false, true_and, and_true, List.map_cons, List.map_nil, List.nil_append, List.cons_append, List.append_nil, Option.map_some, Option.bind_some, List.getElem?_cons_zero, List.getElem?_cons_succ, Bool.false_eq_true, not_true_eq_false, not_false_eq_true, List.contains_cons, List.contains_nil, Nat.reduceBEq, Bool.true_or, Bool.false_or, Bool.or_true, List.set_cons_zero, List.set_cons_succ, List.length_cons, List.length_nil, isLd, Bool.true_and, Bool.false_and, Bool.and_true, Bool.and_false, v3, e0, e3, u0, u3, o0, o1]
          exact hb _ (hno (hord (by unfold ltArc; omega)))
        · simp (maxSteps := 300000) (disch := omega) only [gs, gs2, gs3, ↓reduceIte, Nat.reduceEqDiff, Nat.mul_one, Nat.add_zero, Nat.zero_add, Nat.zero_mul, Int.toNat_natCast, Int.reduceToNat, Nat.reduceMul, Nat.reduceAdd, decide_true, decide_false, Bool.not_true, Bool.not_false, true_and, and_true, List.map_cons, List.map_nil, List.nil_append, List.cons_append, List.append_nil, Option.map_some, Option.bind_some, List.getElem?_cons_zero, List.getElem?_cons_succ, Bool.false_eq_true, not_true_eq_false, not_false_eq_true, List.contains_cons, List.contains_nil, Nat.reduceBEq, Bool.true_or, Bool.false_or, Bool.or_true, List.set_cons_zero, List.set_cons_succ, List.length_cons, List.length_nil, isLd, Bool.true_and, Bool.false_and, Bool.and_true, Bool.and_false, v3, e0, e3, u0, u3, o0, o1]
          exact ⟨m - 1, by omega, _, s4, k + 1, rfl, by omega, by omega, rfl, hok', hgo (by unfold ltArc; omega)⟩
      · rw [show decide ((N.arcs.getD ((k : Int) - 1).toNat z3).1 = (N.arcs.getD k z3).1) = false from decide_eq_false v2]
        simp (maxSteps := 300000) (disch := omega) only [gs, gs2, gs3, ↓reduceIte, Nat.reduceEqDiff, Nat.mul_one, Nat.add_zero, Nat.zero_add, Nat.zero_mul, Int.toNat_natCast, Int.reduceToNat, Nat.reduceMul, Nat.reduceAdd, decide_true, decide_false, Bool.not_true, Bool.not_false, true_and, and_true, List.map_cons, List.map_nil, List.nil_append, List.cons_append, List.append_nil, Option.map_some, Option.bind_some, List.getElem?_cons_zero, List.getElem?_cons_succ, Bool.false_eq_true, not_true_eq_false, not_false_eq_true, List.contains_cons, List.contains_nil, Nat.reduceBEq, Bool.true_or, Bool.false_or, Bool.or_true, List.set_cons_zero, List.set_cons_succ, List.length_cons, List.length_nil, isLd, Bool.true_and, Bool.false_and, Bool.and_true, Bool.and_false, e0, e3, u0, u3, o0, o1]
        exact ⟨m - 1, by omega, _, s4, k + 1, rfl, by omega, by omega, rfl, hok', hgo (by unfold ltArc; omega)⟩
    · simp (maxSteps := 300000) (disch := omega) only [gs, gs2, gs3, ↓reduceIte, Nat.reduceEqDiff, Nat.mul_one, Nat.add_zero, Nat.zero_add, Nat.zero_mul, Int.toNat_natCast, Int.reduceToNat, Nat.reduceMul, Nat.reduceAdd, decide_true, decide_false, Bool.not_true, Bool.not_false, true_and, and_true, List.map_cons, List.map_nil, List.nil_append, List.cons_append, List.append_nil, Option.map_some, Option.bind_some, List.getElem?_cons_zero, List.getElem?_cons_succ, Bool.false_eq_true, not_true_eq_false, not_false_eq_true, List.contains_cons, List.contains_nil, Nat.reduceBEq, Bool.true_or, Bool.false_or, Bool.or_true, List.set_cons_zero, List.set_cons_succ, List.length_cons, List.length_nil, isLd, Bool.true_and, Bool.false_and, Bool.and_true, Bool.and_false, hk0, e0, e3, u0, u3, o0, o1]
      exact ⟨m - 1, by omega, _, s4, k + 1, rfl, by omega, by omega, rfl, hok', fun i hi => by omega⟩
  · simp (maxSteps := 300000) (disch := omega) only [gs, gs2, gs3, ↓reduceIte, Nat.reduceEqDiff, Nat.mul_one, Nat.add_zero, Nat.zero_add, Nat.zero_mul, Int.toNat_natCast, Int.reduceToNat, Nat.reduceMul, Nat.reduceAdd, decide_true, decide_false, Bool.not_true, Bool.not_false, true_and, and_true, List.map_cons, List.map_nil, List.nil_append, List.cons_append, List.append_nil, Option.map_some, Option.bind_some, List.getElem?_cons_zero, List.getElem?_cons_succ, Bool.false_eq_true, not_true_eq_false, not_false_eq_true, List.contains_cons, List.contains_nil, Nat.reduceBEq, Bool.true_or, Bool.false_or, Bool.or_true, List.set_cons_zero, List.set_cons_succ, List.length_cons, List.length_nil, isLd, Bool.true_and, Bool.false_and, Bool.and_true, Bool.and_false, e0, e3, hkk, f3]
    refine ⟨G', Sub.refl _, hk _ ?_⟩
    rw [decide_eq_true_eq]
    constructor
    · intro h24
      exact ⟨g1, g2, g3, g4, ⟨fun i hi => hok i (by omega), fun i hi => hlt i (by omega)⟩, by omega⟩
    · intro hn
      have := hn.2.2.2.2.2
      omega
/-- what the first k arcs bring to a node, less what they take away. -/
def exc (es : List T3) (fl : List Int) (v : Int) : Nat → Int
  | 0 => 0
  | k + 1 => exc es fl v k + (if (es.getD k z3).2.1 = v then fl.getD k 0 else 0) - (if (es.getD k z3).1 = v then fl.getD k 0 else 0)
/-- numbers on arcs that stay small. -/
def FlB (es : List T3) (fl : List Int) : Prop := es.length ≤ 24 ∧ fl.length = es.length ∧ ∀ i, i < es.length → 0 ≤ fl.getD i 0 ∧ fl.getD i 0 ≤ 1000000
theorem exc_bound {es : List T3} {fl : List Int} (h : FlB es fl) (v : Int) : ∀ k : Nat, k ≤ es.length → -(1000000 * k) ≤ exc es fl v k ∧ exc es fl v k ≤ 1000000 * k
  | 0, _ => by simp [exc]
  | k + 1, hk => by
    have ih := exc_bound h v k (by omega)
    have := h.2.2 k (by omega)
    unfold exc
    split <;> split <;> omega
theorem spec_l19Excess_ok {G : GH} {q : Option Addr} {N : Net} {A B : Option Addr} {c d : Nat} {fl : List Int} {v : Int} (h : NetP G q N A c) (hf : IntS G B d fl) (hb : FlB N.arcs fl) {K : Value → GH → Prop}
    (hk : K (.int .i64 (exc N.arcs fl v N.arcs.length)) G) : GC Try.prog 187 [.pointer q, .slice B fl.length d, .int .i64 v] G K := by
  refine c_spec_l19Excess_i (by simp) ?_
  have hq := rd_some h.f0
  have f3 := h.f3
  obtain ⟨hb1, hb2, hb3⟩ := hb
  simp (maxSteps := 300000) (disch := omega) only [gs, gs2, gs3, ↓reduceIte, Nat.reduceEqDiff, Nat.mul_one, Nat.add_zero, Nat.zero_add, Nat.zero_mul, Int.toNat_natCast, Int.reduceToNat, Nat.reduceMul, Nat.reduceAdd, decide_true, decide_false, Bool.not_true, Bool.not_false, true_and, and_true, List.map_cons, List.map_nil, List.nil_append, List.cons_append, List.append_nil, Option.map_some, Option.bind_some, List.getElem?_cons_zero, List.getElem?_cons_succ, Bool.false_eq_true, not_true_eq_false, not_false_eq_true, List.contains_cons, List.contains_nil, Nat.reduceBEq, Bool.true_or, Bool.false_or, Bool.or_true, List.set_cons_zero, List.set_cons_succ, List.length_cons, List.length_nil, isLd, Bool.true_and, Bool.false_and, Bool.and_true, Bool.and_false]
  refine gLoop_intro (fun m T G' => ∃ k : Nat, T 0 = .pointer q ∧ T 1 = .slice B fl.length d ∧ T 2 = .int .i64 v ∧ T 7 = .int .i64 (exc N.arcs fl v k) ∧ T 8 = .int .i64 k ∧ m + k = N.arcs.length ∧ k ≤ N.arcs.length ∧ G' = G)
    N.arcs.length ⟨0, by simp (maxSteps := 300000) (disch := omega) only [gs, gs2, gs3, ↓reduceIte, Nat.reduceEqDiff, Nat.mul_one, Nat.add_zero, Nat.zero_add, Nat.zero_mul, Int.toNat_natCast, Int.reduceToNat, Nat.reduceMul, Nat.reduceAdd, decide_true, decide_false, Bool.not_true, Bool.not_false, true_and, and_true, List.map_cons, List.map_nil, List.nil_append, List.cons_append, List.append_nil, Option.map_some, Option.bind_some, List.getElem?_cons_zero, List.getElem?_cons_succ, Bool.false_eq_true, not_true_eq_false, not_false_eq_true, List.contains_cons, List.contains_nil, Nat.reduceBEq, Bool.true_or, Bool.false_or, Bool.or_true, List.set_cons_zero, List.set_cons_succ, List.length_cons, List.length_nil, isLd, Bool.true_and, Bool.false_and, Bool.and_true, Bool.and_false], by simp (maxSteps := 300000) (disch := omega) only [gs, gs2, gs3, ↓reduceIte, Nat.reduceEqDiff, Nat.mul_one, Nat.add_zero, Nat.zero_add, Nat.zero_mul, Int.toNat_natCast, Int.reduceToNat, Nat.reduceMul, Nat.reduceAdd, decide_true, decide_false, Bool.not_true, Bool.not_false, true_and, and_true, List.map_cons, List.map_nil, List.nil_append, List.cons_append, List.append_nil, Option.map_some, Option.bind_some, List.getElem?_cons_zero, List.getElem?_cons_succ, Bool.false_eq_true, not_true_eq_false, not_false_eq_true, List.contains_cons, List.contains_nil, Nat.reduceBEq, Bool.true_or, Bool.false_or, Bool.or_true, List.set_cons_zero, List.set_cons_succ, List.length_cons, List.length_nil, isLd, Bool.true_and, Bool.false_and, Bool.and_true, Bool.and_false], by simp (maxSteps := 300000) (disch := omega) only [gs, gs2, gs3, ↓reduceIte, Nat.reduceEqDiff, Nat.mul_one, Nat.add_zero, Nat.zero_add, Nat.zero_mul, Int.toNat_natCast, Int.reduceToNat, Nat.reduceMul, Nat.reduceAdd, decide_true, decide_false, Bool.not_true, Bool.not_false, true_and, and_true, List.map_cons, List.map_nil, List.nil_append, List.cons_append, List.append_nil, Option.map_some, Option.bind_some, List.getElem?_cons_zero, List.getElem?_cons_succ, Bool.false_eq_true, not_true_eq_false, not_false_eq_true, List.contains_cons, List.contains_nil, Nat.reduceBEq, Bool.true_or, Bool.false_or, Bool.or_true, List.set_cons_zero, List.set_cons_succ, List.length_cons, List.length_nil, isLd, Bool.true_and, Bool.false_and, Bool.and_true, Bool.and_false], by simp (maxSteps := 300000) (disch := omega) only [gs, gs2, gs3, ↓reduceIte, Nat.reduceEqDiff, Nat.mul_one, Nat.add_zero, Nat.zero_add, Nat.zero_mul, Int.toNat_natCast, Int.reduceToNat, Nat.reduceMul, Nat.reduceAdd, decide_true, decide_false, Bool.not_true, Bool.not_false, true_and, and_true, List.map_cons, List.map_nil, List.nil_append, List.cons_append, List.append_nil, Option.map_some, Option.bind_some, List.getElem?_cons_zero, List.getElem?_cons_succ, Bool.false_eq_true, not_true_eq_false, not_false_eq_true, List.contains_cons, List.contains_nil, Nat.reduceBEq, Bool.true_or, Bool.false_or, Bool.or_true, List.set_cons_zero, List.set_cons_succ, List.length_cons, List.length_nil, isLd, Bool.true_and, Bool.false_and, Bool.and_true, Bool.and_false] <;> rfl, by simp (maxSteps := 300000) (disch := omega) only [gs, gs2, gs3, ↓reduceIte, Nat.reduceEqDiff, Nat.mul_one, Nat.add_zero, Nat.zero_add, Nat.zero_mul, Int.toNat_natCast, Int.reduceToNat, Nat.reduceMul, Nat.reduceAdd, decide_true, decide_false, Bool.not_true, Bool.not_false, true_and, and_true, List.map_cons, List.map_nil, List.nil_append, List.cons_append, List.append_nil, Option.map_some, Option.bind_some, List.getElem?_cons_zero, List.getElem?_cons_succ, Bool.false_eq_true, not_true_eq_false, not_false_eq_true, List.contains_cons, List.contains_nil, Nat.reduceBEq, Bool.true_or, Bool.false_or, Bool.or_true, List.set_cons_zero, List.set_cons_succ, List.length_cons, List.length_nil, isLd, Bool.true_and, Bool.false_and, Bool.and_true, Bool.and_false] <;> rfl, by omega, by omega, rfl⟩ ?_
  rintro m T G' ⟨k, e0, e1, e2, e7, e8, hm, hkl, rfl⟩
  have hsn := h.arcs.sn
  have hsf := hf.sn
  have p0 := h.arcs.r0
  have p1 := h.arcs.r1
  have r := hf.rd
  have hbd := exc_bound ⟨hb1, hb2, hb3⟩ v
  simp (maxSteps := 300000) (disch := omega) only [gs, gs2, gs3, ↓reduceIte, Nat.reduceEqDiff, Nat.mul_one, Nat.add_zero, Nat.zero_add, Nat.zero_mul, Int.toNat_natCast, Int.reduceToNat, Nat.reduceMul, Nat.reduceAdd, decide_true, decide_false, Bool.not_true, Bool.not_false, true_and, and_true, List.map_cons, List.map_nil, List.nil_append, List.cons_append, List.append_nil, Option.map_some, Option.bind_some, List.getElem?_cons_zero, List.getElem?_cons_succ, Bool.false_eq_true, not_true_eq_false, not_false_eq_true, List.contains_cons, List.contains_nil, Nat.reduceBEq, Bool.true_or, Bool.false_or, Bool.or_true, List.set_cons_zero, List.set_cons_succ, List.length_cons, List.length_nil, isLd, Bool.true_and, Bool.false_and, Bool.and_true, Bool.and_false, e0, e1, e2, e7, e8, f3]
  by_cases hkk : (k : Int) < N.arcs.length
  · have b1 := hbd k hkl
    have b2 := hb3 k (by omega)
    simp (maxSteps := 300000) (disch := omega) only [gs, gs2, gs3, ↓reduceIte, Nat.reduceEqDiff, Nat.mul_one, Nat.add_zero, Nat.zero_add, Nat.zero_mul, Int.toNat_natCast, Int.reduceToNat, Nat.reduceMul, Nat.reduceAdd, decide_true, decide_false, Bool.not_true, Bool.not_false, true_and, and_true, List.map_cons, List.map_nil, List.nil_append, List.cons_append, List.append_nil, Option.map_some, Option.bind_some, List.getElem?_cons_zero, List.getElem?_cons_succ, Bool.false_eq_true, not_true_eq_false, not_false_eq_true, List.contains_cons, List.contains_nil, Nat.reduceBEq, Bool.true_or, Bool.false_or, Bool.or_true, List.set_cons_zero, List.set_cons_succ, List.length_cons, List.length_nil, isLd, Bool.true_and, Bool.false_and, Bool.and_true, Bool.and_false, e0, e1, e2, e7, e8, f3, hkk, p0, p1, r]
    by_cases g1 : (N.arcs.getD k z3).2.1 = v
    · simp (maxSteps := 300000) (disch := omega) only [gs, gs2, gs3, ↓reduceIte, Nat.reduceEqDiff, Nat.mul_one, Nat.add_zero, Nat.zero_add, Nat.zero_mul, Int.toNat_natCast, Int.reduceToNat, Nat.reduceMul, Nat.reduceAdd, decide_true, decide_false, Bool.not_true, Bool.not_false, true_and, and_true, List.map_cons, List.map_nil, List.nil_append, List.cons_append, List.append_nil, Option.map_some, Option.bind_some, List.getElem?_cons_zero, List.getElem?_cons_succ, Bool.false_eq_true, not_true_eq_false, not_false_eq_true, List.contains_cons, List.contains_nil, Nat.reduceBEq, Bool.true_or, Bool.false_or, Bool.or_true, List.set_cons_zero, List.set_cons_succ, List.length_cons, List.length_nil, isLd, Bool.true_and, Bool.false_and, Bool.and_true, Bool.and_false, eq_true g1, e0, e1, e2, e7, e8, f3, hkk, p0, p1, r]
      by_cases g2 : (N.arcs.getD k z3).1 = v
      · simp (maxSteps := 300000) (disch := omega) only [gs, gs2, gs3, ↓reduceIte, Nat.reduceEqDiff, Nat.mul_one, Nat.add_zero, Nat.zero_add, Nat.zero_mul, Int.toNat_natCast, Int.reduceToNat, Nat.reduceMul, Nat.reduceAdd, decide_true, decide_false, Bool.not_true, Bool.not_false, true_and, and_true, List.map_cons, List.map_nil, List.nil_append, List.cons_append, List.append_nil, Option.map_some, Option.bind_some, List.getElem?_cons_zero, List.getElem?_cons_succ, Bool.false_eq_true, not_true_eq_false, not_false_eq_true, List.contains_cons, List.contains_nil, Nat.reduceBEq, Bool.true_or, Bool.false_or, Bool.or_true, List.set_cons_zero, List.set_cons_succ, List.length_cons, List.length_nil, isLd, Bool.true_and, Bool.false_and, Bool.and_true, Bool.and_false, eq_true g2, e0, e1, e2, e7, e8, f3, hkk, p0, p1, r]
        exact ⟨m - 1, by omega, _, Sub.refl _, k + 1, by simp only [exc]; rw [if_pos g1, if_pos g2], rfl, by omega, by omega, rfl⟩
      · rw [decide_eq_false g2]
        simp (maxSteps := 300000) (disch := omega) only [gs, gs2, gs3, ↓reduceIte, Nat.reduceEqDiff, Nat.mul_one, Nat.add_zero, Nat.zero_add, Nat.zero_mul, Int.toNat_natCast, Int.reduceToNat, Nat.reduceMul, Nat.reduceAdd, decide_true, decide_false, Bool.not_true, Bool.not_false, true_and, and_true, List.map_cons, List.map_nil, List.nil_append, List.cons_append, List.append_nil, Option.map_some, Option.bind_some, List.getElem?_cons_zero, List.getElem?_cons_succ, Bool.false_eq_true, not_true_eq_false, not_false_eq_true, List.contains_cons, List.contains_nil, Nat.reduceBEq, Bool.true_or, Bool.false_or, Bool.or_true, List.set_cons_zero, List.set_cons_succ, List.length_cons, List.length_nil, isLd, Bool.true_and, Bool.false_and, Bool.and_true, Bool.and_false, e0, e1, e2, e7, e8, f3, hkk, p0, p1, r]
        exact ⟨m - 1, by omega, _, Sub.refl _, k + 1, by simp only [exc]; rw [if_pos g1, if_neg g2, Int.sub_zero], rfl, by omega, by omega, rfl⟩
    · rw [decide_eq_false g1]
      simp (maxSteps := 300000) (disch := omega) only [gs, gs2, gs3, ↓reduceIte, Nat.reduceEqDiff, Nat.mul_one, Nat.add_zero, Nat.zero_add, Nat.zero_mul, Int.toNat_natCast, Int.reduceToNat, Nat.reduceMul, Nat.reduceAdd, decide_true, decide_false, Bool.not_true, Bool.not_false, true_and, and_true, List.map_cons, List.map_nil, List.nil_append, List.cons_append, List.append_nil, Option.map_some, Option.bind_some, List.getElem?_cons_zero, List.getElem?_cons_succ, Bool.false_eq_true, not_true_eq_false, not_false_eq_true, List.contains_cons, List.contains_nil, Nat.reduceBEq, Bool.true_or, Bool.false_or, Bool.or_true, List.set_cons_zero, List.set_cons_succ, List.length_cons, List.length_nil, isLd, Bool.true_and, Bool.false_and, Bool.and_true, Bool.and_false, e0, e1, e2, e7, e8, f3, hkk, p0, p1, r]
      by_cases g2 : (N.arcs.getD k z3).1 = v
      · simp (maxSteps := 300000) (disch := omega) only [gs, gs2, gs3, ↓reduceIte, Nat.reduceEqDiff, Nat.mul_one, Nat.add_zero, Nat.zero_add, Nat.zero_mul, Int.toNat_natCast, Int.reduceToNat, Nat.reduceMul, Nat.reduceAdd, decide_true, decide_false, Bool.not_true, Bool.not_false, true_and, and_true, List.map_cons, List.map_nil, List.nil_append, List.cons_append, List.append_nil, Option.map_some, Option.bind_some, List.getElem?_cons_zero, List.getElem?_cons_succ, Bool.false_eq_true, not_true_eq_false, not_false_eq_true, List.contains_cons, List.contains_nil, Nat.reduceBEq, Bool.true_or, Bool.false_or, Bool.or_true, List.set_cons_zero, List.set_cons_succ, List.length_cons, List.length_nil, isLd, Bool.true_and, Bool.false_and, Bool.and_true, Bool.and_false, eq_true g2, e0, e1, e2, e7, e8, f3, hkk, p0, p1, r]
        exact ⟨m - 1, by omega, _, Sub.refl _, k + 1, by simp only [exc]; rw [if_neg g1, if_pos g2, Int.add_zero], rfl, by omega, by omega, rfl⟩
      · rw [decide_eq_false g2]
        simp (maxSteps := 300000) (disch := omega) only [gs, gs2, gs3, ↓reduceIte, Nat.reduceEqDiff, Nat.mul_one, Nat.add_zero, Nat.zero_add, Nat.zero_mul, Int.toNat_natCast, Int.reduceToNat, Nat.reduceMul, Nat.reduceAdd, decide_true, decide_false, Bool.not_true, Bool.not_false, true_and, and_true, List.map_cons, List.map_nil, List.nil_append, List.cons_append, List.append_nil, Option.map_some, Option.bind_some, List.getElem?_cons_zero, List.getElem?_cons_succ, Bool.false_eq_true, not_true_eq_false, not_false_eq_true, List.contains_cons, List.contains_nil, Nat.reduceBEq, Bool.true_or, Bool.false_or, Bool.or_true, List.set_cons_zero, List.set_cons_succ, List.length_cons, List.length_nil, isLd, Bool.true_and, Bool.false_and, Bool.and_true, Bool.and_false, e0, e1, e2, e7, e8, f3, hkk, p0, p1, r]
        exact ⟨m - 1, by omega, _, Sub.refl _, k + 1, by simp only [exc]; rw [if_neg g1, if_neg g2, Int.sub_zero, Int.add_zero], rfl, by omega, by omega, rfl⟩
  · simp (maxSteps := 300000) (disch := omega) only [gs, gs2, gs3, ↓reduceIte, Nat.reduceEqDiff, Nat.mul_one, Nat.add_zero, Nat.zero_add, Nat.zero_mul, Int.toNat_natCast, Int.reduceToNat, Nat.reduceMul, Nat.reduceAdd, decide_true, decide_false, Bool.not_true, Bool.not_false, true_and, and_true, List.map_cons, List.map_nil, List.nil_append, List.cons_append, List.append_nil, Option.map_some, Option.bind_some, List.getElem?_cons_zero, List.getElem?_cons_succ, Bool.false_eq_true, not_true_eq_false, not_false_eq_true, List.contains_cons, List.contains_nil, Nat.reduceBEq, Bool.true_or, Bool.false_or, Bool.or_true, List.set_cons_zero, List.set_cons_succ, List.length_cons, List.length_nil, isLd, Bool.true_and, Bool.false_and, Bool.and_true, Bool.and_false, e0, e1, e2, e7, e8, hkk, f3]
    rw [show k = N.arcs.length by omega]
    exact hk
theorem impl_excess_ok {G : GH} {N : Net} {A B : Option Addr} {c d : Nat} {fl : List Int} (h : T3S G A c N.arcs) (hf : IntS G B d fl) (hn : NetOk N) (hb : FlB N.arcs fl) {K : Value → GH → Prop}
    (hk : ∀ b, G b = none → K (.slice (some ⟨b, 0, none⟩) N.n.toNat N.n.toNat) (put G b ⟨(List.range N.n.toNat).map (fun v : Nat => I64 (exc N.arcs fl v N.arcs.length)), true⟩)) : GC Try.prog 191 [netV N A c, .slice B fl.length d] G K := by
  refine GC_drop (c_impl_excess_i (by simp) ?_)
  unfold netV netC
  simp (maxSteps := 300000) (disch := omega) only [gs, gs2, gs3, ↓reduceIte, Nat.reduceEqDiff, Nat.mul_one, Nat.add_zero, Nat.zero_add, Nat.zero_mul, Int.toNat_natCast, Int.reduceToNat, Nat.reduceMul, Nat.reduceAdd, decide_true, decide_false, Bool.not_true, Bool.not_false, true_and, and_true, List.map_cons, List.map_nil, List.nil_append, List.cons_append, List.append_nil, Option.map_some, Option.bind_some, List.getElem?_cons_zero, List.getElem?_cons_succ, Bool.false_eq_true, not_true_eq_false, not_false_eq_true, List.contains_cons, List.contains_nil, Nat.reduceBEq, Bool.true_or, Bool.false_or, Bool.or_true, List.set_cons_zero, List.set_cons_succ, List.length_cons, List.length_nil, isLd, Bool.true_and, Bool.false_and, Bool.and_true, Bool.and_false]
  intro b1 hb1
  have hs := Sub.put hb1 ⟨netC N A c, true⟩
  unfold netC at hs
  have hn1 := hn.1
  obtain ⟨hb1', hb2, hb3⟩ := hb
  simp (maxSteps := 300000) (disch := omega) only [gs, gs2, gs3, ↓reduceIte, Nat.reduceEqDiff, Nat.mul_one, Nat.add_zero, Nat.zero_add, Nat.zero_mul, Int.toNat_natCast, Int.reduceToNat, Nat.reduceMul, Nat.reduceAdd, decide_true, decide_false, Bool.not_true, Bool.not_false, true_and, and_true, List.map_cons, List.map_nil, List.nil_append, List.cons_append, List.append_nil, Option.map_some, Option.bind_some, List.getElem?_cons_zero, List.getElem?_cons_succ, Bool.false_eq_true, not_true_eq_false, not_false_eq_true, List.contains_cons, List.contains_nil, Nat.reduceBEq, Bool.true_or, Bool.false_or, Bool.or_true, List.set_cons_zero, List.set_cons_succ, List.length_cons, List.length_nil, isLd, Bool.true_and, Bool.false_and, Bool.and_true, Bool.and_false]
  refine ⟨N.n.toNat, N.n.toNat, by rw [Int.toNat_of_nonneg (by omega)], by rw [Int.toNat_of_nonneg (by omega)], Nat.le_refl _, by omega, by omega, fun b2 hb2' => ?_⟩
  have q2 := hb2'
  simp only [put_none] at q2
  have hs2 := hs.trans (Sub.put hb2' ⟨zc [.int .i64 0] N.n.toNat, true⟩)
  simp (maxSteps := 300000) (disch := omega) only [gs, gs2, gs3, ↓reduceIte, Nat.reduceEqDiff, Nat.mul_one, Nat.add_zero, Nat.zero_add, Nat.zero_mul, Int.toNat_natCast, Int.reduceToNat, Nat.reduceMul, Nat.reduceAdd, decide_true, decide_false, Bool.not_true, Bool.not_false, true_and, and_true, List.map_cons, List.map_nil, List.nil_append, List.cons_append, List.append_nil, Option.map_some, Option.bind_some, List.getElem?_cons_zero, List.getElem?_cons_succ, Bool.false_eq_true, not_true_eq_false, not_false_eq_true, List.contains_cons, List.contains_nil, Nat.reduceBEq, Bool.true_or, Bool.false_or, Bool.or_true, List.set_cons_zero, List.set_cons_succ, List.length_cons, List.length_nil, isLd, Bool.true_and, Bool.false_and, Bool.and_true, Bool.and_false]
  refine gLoop_intro (fun m T G' => ∃ k : Nat, T 1 = .slice B fl.length d ∧ T 5 = .slice (some ⟨b2, 0, none⟩) N.n.toNat N.n.toNat ∧ T 12 = .slice A N.arcs.length c ∧ T 13 = .int .i64 N.arcs.length ∧ T 14 = .int .i64 k ∧ m + k = N.arcs.length ∧ k ≤ N.arcs.length ∧
    G' = put (put G b1 ⟨[.int .i64 N.n, .int .i64 N.s, .int .i64 N.t, .slice A N.arcs.length c], true⟩) b2 ⟨(List.range N.n.toNat).map (fun v : Nat => I64 (exc N.arcs fl v k)), true⟩)
    N.arcs.length ⟨0, by simp (maxSteps := 300000) (disch := omega) only [gs, gs2, gs3, ↓reduceIte, Nat.reduceEqDiff, Nat.mul_one, Nat.add_zero, Nat.zero_add, Nat.zero_mul, Int.toNat_natCast, Int.reduceToNat, Nat.reduceMul, Nat.reduceAdd, decide_true, decide_false, Bool.not_true, Bool.not_false, true_and, and_true, List.map_cons, List.map_nil, List.nil_append, List.cons_append, List.append_nil, Option.map_some, Option.bind_some, List.getElem?_cons_zero, List.getElem?_cons_succ, Bool.false_eq_true, not_true_eq_false, not_false_eq_true, List.contains_cons, List.contains_nil, Nat.reduceBEq, Bool.true_or, Bool.false_or, Bool.or_true, List.set_cons_zero, List.set_cons_succ, List.length_cons, List.length_nil, isLd, Bool.true_and, Bool.false_and, Bool.and_true, Bool.and_false], by simp (maxSteps := 300000) (disch := omega) only [gs, gs2, gs3, ↓reduceIte, Nat.reduceEqDiff, Nat.mul_one, Nat.add_zero, Nat.zero_add, Nat.zero_mul, Int.toNat_natCast, Int.reduceToNat, Nat.reduceMul, Nat.reduceAdd, decide_true, decide_false, Bool.not_true, Bool.not_false, true_and, and_true, List.map_cons, List.map_nil, List.nil_append, List.cons_append, List.append_nil, Option.map_some, Option.bind_some, List.getElem?_cons_zero, List.getElem?_cons_succ, Bool.false_eq_true, not_true_eq_false, not_false_eq_true, List.contains_cons, List.contains_nil, Nat.reduceBEq, Bool.true_or, Bool.false_or, Bool.or_true, List.set_cons_zero, List.set_cons_succ, List.length_cons, List.length_nil, isLd, Bool.true_and, Bool.false_and, Bool.and_true, Bool.and_false], by simp (maxSteps := 300000) (disch := omega) only [gs, gs2, gs3, ↓reduceIte, Nat.reduceEqDiff, Nat.mul_one, Nat.add_zero, Nat.zero_add, Nat.zero_mul, Int.toNat_natCast, Int.reduceToNat, Nat.reduceMul, Nat.reduceAdd, decide_true, decide_false, Bool.not_true, Bool.not_false, true_and, and_true, List.map_cons, List.map_nil, List.nil_append, List.cons_append, List.append_nil, Option.map_some, Option.bind_some, List.getElem?_cons_zero, List.getElem?_cons_succ, Bool.false_eq_true, not_true_eq_false, not_false_eq_true, List.contains_cons, List.contains_nil, Nat.reduceBEq, Bool.true_or, Bool.false_or, Bool.or_true, List.set_cons_zero, List.set_cons_succ, List.length_cons, List.length_nil, isLd, Bool.true_and, Bool.false_and, Bool.and_true, Bool.and_false], by simp (maxSteps := 300000) (disch := omega) only [gs, gs2, gs3, ↓reduceIte, Nat.reduceEqDiff, Nat.mul_one, Nat.add_zero, Nat.zero_add, Nat.zero_mul, Int.toNat_natCast, Int.reduceToNat, Nat.reduceMul, Nat.reduceAdd, decide_true, decide_false, Bool.not_true, Bool.not_false, true_and, and_true, List.map_cons, List.map_nil, List.nil_append, List.cons_append, List.append_nil, Option.map_some, Option.bind_some, List.getElem?_cons_zero, List.getElem?_cons_succ, Bool.false_eq_true, not_true_eq_false, not_false_eq_true, List.contains_cons, List.contains_nil, Nat.reduceBEq, Bool.true_or, Bool.false_or, Bool.or_true, List.set_cons_zero, List.set_cons_succ, List.length_cons, List.length_nil, isLd, Bool.true_and, Bool.false_and, Bool.and_true, Bool.and_false], by simp (maxSteps := 300000) (disch := omega) only [gs, gs2, gs3, ↓reduceIte, Nat.reduceEqDiff, Nat.mul_one, Nat.add_zero, Nat.zero_add, Nat.zero_mul, Int.toNat_natCast, Int.reduceToNat, Nat.reduceMul, Nat.reduceAdd, decide_true, decide_false, Bool.not_true, Bool.not_false, true_and, and_true, List.map_cons, List.map_nil, List.nil_append, List.cons_append, List.append_nil, Option.map_some, Option.bind_some, List.getElem?_cons_zero, List.getElem?_cons_succ, Bool.false_eq_true, not_true_eq_false, not_false_eq_true, List.contains_cons, List.contains_nil, Nat.reduceBEq, Bool.true_or, Bool.false_or, Bool.or_true, List.set_cons_zero, List.set_cons_succ, List.length_cons, List.length_nil, isLd, Bool.true_and, Bool.false_and, Bool.and_true, Bool.and_false] <;> rfl, by omega, by omega, by rw [zc_one, rep_range]; rfl⟩ ?_
  rintro m T G' ⟨k, e1, e5, e12, e13, e14, hm, hkl, rfl⟩
  have hs2 := hs.trans (Sub.put hb2' ⟨(List.range N.n.toNat).map (fun v : Nat => I64 (exc N.arcs fl v k)), true⟩)
  have hh := h.sub hs2
  have hff := hf.sub hs2
  have hsn := hh.sn
  have hsf := hff.sn
  have p0 := hh.r0
  have p1 := hh.r1
  have p2 := hh.r2
  simp (maxSteps := 300000) (disch := omega) only [gs, gs2, gs3, ↓reduceIte, Nat.reduceEqDiff, Nat.mul_one, Nat.add_zero, Nat.zero_add, Nat.zero_mul, Int.toNat_natCast, Int.reduceToNat, Nat.reduceMul, Nat.reduceAdd, decide_true, decide_false, Bool.not_true, Bool.not_false, true_and, and_true, List.map_cons, List.map_nil, List.nil_append, List.cons_append, List.append_nil, Option.map_some, Option.bind_some, List.getElem?_cons_zero, List.getElem?_cons_succ, Bool.false_eq_true, not_true_eq_false, not_false_eq_true, List.contains_cons, List.contains_nil, Nat.reduceBEq, Bool.true_or, Bool.false_or, Bool.or_true, List.set_cons_zero, List.set_cons_succ, List.length_cons, List.length_nil, isLd, Bool.true_and, Bool.false_and, Bool.and_true, Bool.and_false, e1, e5, e12, e13, e14]
  by_cases hkk : (k : Int) < N.arcs.length
  · simp (maxSteps := 300000) (disch := omega) only [gs, gs2, gs3, ↓reduceIte, Nat.reduceEqDiff, Nat.mul_one, Nat.add_zero, Nat.zero_add, Nat.zero_mul, Int.toNat_natCast, Int.reduceToNat, Nat.reduceMul, Nat.reduceAdd, decide_true, decide_false, Bool.not_true, Bool.not_false, true_and, and_true, List.map_cons, List.map_nil, List.nil_append, List.cons_append, List.append_nil, Option.map_some, Option.bind_some, List.getElem?_cons_zero, List.getElem?_cons_succ, Bool.false_eq_true, not_true_eq_false, not_false_eq_true, List.contains_cons, List.contains_nil, Nat.reduceBEq, Bool.true_or, Bool.false_or, Bool.or_true, List.set_cons_zero, List.set_cons_succ, List.length_cons, List.length_nil, isLd, Bool.true_and, Bool.false_and, Bool.and_true, Bool.and_false, e1, e5, e12, e13, e14, hkk, p0, p1, p2]
    intro b7 hb7
    have q7 := hb7
    simp only [put_none] at q7
    have s7 := Sub.put hb7 ⟨c3 (N.arcs.getD k z3), true⟩
    simp (maxSteps := 300000) (disch := omega) only [gs, gs2, gs3, ↓reduceIte, Nat.reduceEqDiff, Nat.mul_one, Nat.add_zero, Nat.zero_add, Nat.zero_mul, Int.toNat_natCast, Int.reduceToNat, Nat.reduceMul, Nat.reduceAdd, decide_true, decide_false, Bool.not_true, Bool.not_false, true_and, and_true, List.map_cons, List.map_nil, List.nil_append, List.cons_append, List.append_nil, Option.map_some, Option.bind_some, List.getElem?_cons_zero, List.getElem?_cons_succ, Bool.false_eq_true, not_true_eq_false, not_false_eq_true, List.contains_cons, List.contains_nil, Nat.reduceBEq, Bool.true_or, Bool.false_or, Bool.or_true, List.set_cons_zero, List.set_cons_succ, List.length_cons, List.length_nil, isLd, Bool.true_and, Bool.false_and, Bool.and_true, Bool.and_false, e1, e5, e12, e13, e14]
    refine st_many (vs := c3 (N.arcs.getD k z3)) rfl (put_same _ _ _) rfl (by simp) (c3_one _) ?_
    have r := (hff.sub s7).rd
    unfold c3 at r ⊢
    have hok := hn.2.2.2.2.1.1 k (by omega)
    obtain ⟨⟨k1, k2⟩, ⟨k3, k4⟩, k5, _⟩ := hok
    have hc : ∀ v : Int, 0 ≤ v → v < N.n → ((List.range N.n.toNat).map (fun v : Nat => I64 (exc N.arcs fl v k)))[v.toNat]? = some (.int .i64 (exc N.arcs fl v k)) := fun v h1 h2 => by
      rw [range_get _ _ _ (by omega)]; simp only [I64]; rw [Int.toNat_of_nonneg h1]
    have t1 := exc_bound ⟨hb1', hb2, hb3⟩ (N.arcs.getD k z3).2.1 k hkl
    have t2 := exc_bound ⟨hb1', hb2, hb3⟩ (N.arcs.getD k z3).1 k hkl
    have t3 := hb3 k (by omega)
    simp (maxSteps := 300000) (disch := omega) only [gs, gs2, gs3, ↓reduceIte, Nat.reduceEqDiff, Nat.mul_one, Nat.add_zero, Nat.zero_add, Nat.zero_mul, Int.toNat_natCast, Int.reduceToNat, Nat.reduceMul, Nat.reduceAdd, decide_true, decide_false, Bool.not_true, Bool.not_false, true_and, and_true, List.map_cons, List.map_nil, List.nil_append, List.cons_append, List.append_nil, Option.map_some, Option.bind_some, List.getElem?_cons_zero, List.getElem?_cons_succ, Bool.false_eq_true, not_true_eq_false, not_false_eq_true, List.contains_cons, List.contains_nil, Nat.reduceBEq, Bool.true_or, Bool.false_or, Bool.or_true, List.set_cons_zero, List.set_cons_succ, List.length_cons, List.length_nil, isLd, Bool.true_and, Bool.false_and, Bool.and_true, Bool.and_false, over, e1, e5, e12, e13, e14, r, hc]
    refine st_one (by rw [put_ne _ _ (by omega)]; exact put_same _ _ _) (by rw [List.length_map, List.length_range]; omega) rfl ?_
    have r2 := (hf.sub (((((Sub.refl G).skip hb1 (e := ⟨[.int .i64 N.n, .int .i64 N.s, .int .i64 N.t, .slice A N.arcs.length c], true⟩)).skip q2.2 (e := ⟨(List.range N.n.toNat).map (fun v : Nat => I64 (exc N.arcs fl v k)), true⟩)).skip q7.2.2 (e := ⟨c3 (N.arcs.getD k z3), true⟩)).skip q2.2
      (e := ⟨((List.range N.n.toNat).map (fun v : Nat => I64 (exc N.arcs fl v k))).set (N.arcs.getD k z3).2.1.toNat (.int .i64 (exc N.arcs fl (N.arcs.getD k z3).2.1 k + fl.getD k 0)), true⟩))).rd
    unfold c3 at r2
    simp (maxSteps := 300000) (disch := omega) only [gs, gs2, gs3, ↓reduceIte, Nat.reduceEqDiff, Nat.mul_one, Nat.add_zero, Nat.zero_add, Nat.zero_mul, Int.toNat_natCast, Int.reduceToNat, Nat.reduceMul, Nat.reduceAdd, decide_true, decide_false, Bool.not_true, Bool.not_false, true_and, and_true, List.map_cons, List.map_nil, List.nil_append, List.cons_append, List.append_nil, Option.map_some, Option.bind_some, List.getElem?_cons_zero, List.getElem?_cons_succ, Bool.false_eq_true, not_true_eq_false, not_false_eq_true, List.contains_cons, List.contains_nil, Nat.reduceBEq, Bool.true_or, Bool.false_or, Bool.or_true, List.set_cons_zero, List.set_cons_succ, List.length_cons, List.length_nil, isLd, Bool.true_and, Bool.false_and, Bool.and_true, Bool.and_false, e1, e5, e12, e13, e14, r2, hc, List.getElem?_set_ne, List.length_set, List.length_map, List.length_range]
    refine st_one (put_same _ _ _) (by rw [List.length_set, List.length_map, List.length_range]; omega) rfl ?_
    simp (maxSteps := 300000) (disch := omega) only [gs, gs2, gs3, ↓reduceIte, Nat.reduceEqDiff, Nat.mul_one, Nat.add_zero, Nat.zero_add, Nat.zero_mul, Int.toNat_natCast, Int.reduceToNat, Nat.reduceMul, Nat.reduceAdd, decide_true, decide_false, Bool.not_true, Bool.not_false, true_and, and_true, List.map_cons, List.map_nil, List.nil_append, List.cons_append, List.append_nil, Option.map_some, Option.bind_some, List.getElem?_cons_zero, List.getElem?_cons_succ, Bool.false_eq_true, not_true_eq_false, not_false_eq_true, List.contains_cons, List.contains_nil, Nat.reduceBEq, Bool.true_or, Bool.false_or, Bool.or_true, List.set_cons_zero, List.set_cons_succ, List.length_cons, List.length_nil, isLd, Bool.true_and, Bool.false_and, Bool.and_true, Bool.and_false, e1, e5, e12, e13, e14, put_put']
    refine ⟨m - 1, by omega, _, Sub.both (Sub.skip (Sub.skip (Sub.refl _) hb2') (put_none.2 q7.2)), k + 1, rfl, by omega, by omega, ?_⟩
    congr 2
    rw [range_set, range_set]
    exact range_cong fun v hv => by
      simp only [exc, I64]
      by_cases hx : (N.arcs.getD k z3).1 = v
      · rw [if_pos (by omega), if_pos hx, if_neg (by omega), hx]
        congr 1; omega
      · rw [if_neg (by omega), if_neg hx]
        by_cases hy : (N.arcs.getD k z3).2.1 = v
        · rw [if_pos (by omega), if_pos hy, hy]; congr 1; omega
        · rw [if_neg (by omega), if_neg hy]; congr 1; omega
  · simp (maxSteps := 300000) (disch := omega) only [gs, gs2, gs3, ↓reduceIte, Nat.reduceEqDiff, Nat.mul_one, Nat.add_zero, Nat.zero_add, Nat.zero_mul, Int.toNat_natCast, Int.reduceToNat, Nat.reduceMul, Nat.reduceAdd, decide_true, decide_false, Bool.not_true, Bool.not_false, true_and, and_true, List.map_cons, List.map_nil, List.nil_append, List.cons_append, List.append_nil, Option.map_some, Option.bind_some, List.getElem?_cons_zero, List.getElem?_cons_succ, Bool.false_eq_true, not_true_eq_false, not_false_eq_true, List.contains_cons, List.contains_nil, Nat.reduceBEq, Bool.true_or, Bool.false_or, Bool.or_true, List.set_cons_zero, List.set_cons_succ, List.length_cons, List.length_nil, isLd, Bool.true_and, Bool.false_and, Bool.and_true, Bool.and_false, e1, e5, e12, e13, e14, hkk]
    exact ⟨_, (Sub.refl G).skip hb1 |>.both, by rw [show k = N.arcs.length by omega]; exact hk b2 q2.2⟩
/-- the place of the arc from a to b, or -1. -/
def arcI (es : List T3) (a b : Int) : Int := match es.findIdx? (fun e => decide (e.1 = a ∧ e.2.1 = b)) with | some i => (i : Int) | none => -1
theorem arcI_none {es : List T3} {a b : Int} (h : ∀ i, i < es.length → ¬ ((es.getD i z3).1 = a ∧ (es.getD i z3).2.1 = b)) : arcI es a b = -1 := by
  have : es.findIdx? (fun e => decide (e.1 = a ∧ e.2.1 = b)) = none := by
    rw [List.findIdx?_eq_none_iff]
    intro x hx
    obtain ⟨i, hi, rfl⟩ := List.getElem_of_mem hx
    have := h i hi
    simp only [List.getD, List.getElem?_eq_getElem hi, Option.getD_some] at this
    simpa using this
  unfold arcI; rw [this]
theorem arcI_some {es : List T3} {a b : Int} {k : Nat} (hk : k < es.length) (hp : (es.getD k z3).1 = a ∧ (es.getD k z3).2.1 = b) (h : ∀ i, i < k → ¬ ((es.getD i z3).1 = a ∧ (es.getD i z3).2.1 = b)) : arcI es a b = k := by
  have : es.findIdx? (fun e => decide (e.1 = a ∧ e.2.1 = b)) = some k := by
    rw [List.findIdx?_eq_some_iff_getElem]
    refine ⟨hk, ?_, fun j hj => ?_⟩
    · simp only [List.getD, List.getElem?_eq_getElem hk, Option.getD_some] at hp
      simpa using hp
    · have := h j hj
      have hj' : j < es.length := by omega
      simp only [List.getD, List.getElem?_eq_getElem hj', Option.getD_some] at this
      simpa using this
  unfold arcI; rw [this]
/-- either there is one place, the first, or there is none. -/
theorem arcI_cases (es : List T3) (a b : Int) : (∃ k : Nat, k < es.length ∧ (es.getD k z3).1 = a ∧ (es.getD k z3).2.1 = b ∧ (∀ i, i < k → ¬ ((es.getD i z3).1 = a ∧ (es.getD i z3).2.1 = b)) ∧ arcI es a b = k) ∨
    ((∀ i, i < es.length → ¬ ((es.getD i z3).1 = a ∧ (es.getD i z3).2.1 = b)) ∧ arcI es a b = -1) := by
  cases hf : es.findIdx? (fun e => decide (e.1 = a ∧ e.2.1 = b)) with
  | none =>
    right
    rw [List.findIdx?_eq_none_iff] at hf
    have h : ∀ i, i < es.length → ¬ ((es.getD i z3).1 = a ∧ (es.getD i z3).2.1 = b) := fun i hi => by
      have := hf _ (List.getElem_mem hi)
      simp only [List.getD, List.getElem?_eq_getElem hi, Option.getD_some]
      simpa using this
    exact ⟨h, arcI_none h⟩
  | some k =>
    left
    rw [List.findIdx?_eq_some_iff_getElem] at hf
    obtain ⟨hk, hp, hm⟩ := hf
    have hp' : (es.getD k z3).1 = a ∧ (es.getD k z3).2.1 = b := by
      simp only [List.getD, List.getElem?_eq_getElem hk, Option.getD_some]
      simpa using hp
    have hm' : ∀ i, i < k → ¬ ((es.getD i z3).1 = a ∧ (es.getD i z3).2.1 = b) := fun i hi => by
      have := hm i hi
      simp only [List.getD, List.getElem?_eq_getElem (show i < es.length by omega), Option.getD_some]
      simpa using this
    exact ⟨k, hk, hp'.1, hp'.2, hm', arcI_some hk hp' hm'⟩
/-- arcs in order stand once. -/
theorem lt_trans' {es : List T3} (h : ∀ i, i + 1 < es.length → ltArc (es.getD i z3) (es.getD (i + 1) z3)) : ∀ (d i : Nat), i + d + 1 < es.length → ltArc (es.getD i z3) (es.getD (i + d + 1) z3)
  | 0, i, hi => h i hi
  | d + 1, i, hi => by
    have h1 := lt_trans' h d i (by omega)
    have h2 := h (i + d + 1) hi
    unfold ltArc at *
    rw [show i + (d + 1) + 1 = i + d + 1 + 1 by omega]
    omega
theorem arc_once {es : List T3} (h : ∀ i, i + 1 < es.length → ltArc (es.getD i z3) (es.getD (i + 1) z3)) {i j : Nat} (hi : i < es.length) (hj : j < es.length) (h1 : (es.getD i z3).1 = (es.getD j z3).1) (h2 : (es.getD i z3).2.1 = (es.getD j z3).2.1) : i = j := by
  have key : ∀ i j, i < j → j < es.length → (es.getD i z3).1 = (es.getD j z3).1 → (es.getD i z3).2.1 = (es.getD j z3).2.1 → False := fun i j hij hj h1 h2 => by
    have := lt_trans' h (j - i - 1) i (by omega)
    rw [show i + (j - i - 1) + 1 = j by omega] at this
    unfold ltArc at this
    omega
  rcases Nat.lt_trichotomy i j with hlt | rfl | hgt
  · exact (key i j hlt hj h1 h2).elim
  · rfl
  · exact (key j i hgt hi h1.symm h2.symm).elim
/-- a sum over places of which one at most counts. -/
def sumP (p : Nat → Bool) (f : Nat → Int) : Nat → Int
  | 0 => 0
  | k + 1 => sumP p f k + if p k = true then f k else 0
theorem sumP_none {p : Nat → Bool} {f : Nat → Int} : ∀ n : Nat, (∀ i, i < n → p i = false) → sumP p f n = 0
  | 0, _ => rfl
  | n + 1, h => by rw [sumP, sumP_none n fun i hi => h i (by omega), h n (by omega)]; rfl
theorem sumP_one {p : Nat → Bool} {f : Nat → Int} {k : Nat} : ∀ n : Nat, k < n → p k = true → (∀ i, i < n → p i = true → i = k) → sumP p f n = f k
  | 0, h, _, _ => by omega
  | n + 1, hk, hp, h => by
    rw [sumP]
    by_cases hkn : k = n
    · subst hkn
      rw [hp, sumP_none k fun i hi => by
        cases hpi : p i with
        | false => rfl
        | true => have := h i (by omega) hpi; omega]
      simp
    · rw [sumP_one n (by omega) hp fun i hi => h i (by omega)]
      have : p n = false := by
        cases hpn : p n with
        | false => rfl
        | true => exact absurd (h n (by omega) hpn).symm hkn
      rw [this]; simp
/-- how much more can go from a to b, summed over the first k arcs. -/
def rmK (es : List T3) (fl : List Int) (a b : Int) : Nat → Int
  | 0 => 0
  | k + 1 => rmK es fl a b k + (if (es.getD k z3).1 = a ∧ (es.getD k z3).2.1 = b then (es.getD k z3).2.2 - fl.getD k 0 else 0) + (if (es.getD k z3).1 = b ∧ (es.getD k z3).2.1 = a then fl.getD k 0 else 0)
def rm (es : List T3) (fl : List Int) (a b : Int) : Int := (if 0 ≤ arcI es a b then (es.getD (arcI es a b).toNat z3).2.2 - fl.getD (arcI es a b).toNat 0 else 0) + (if 0 ≤ arcI es b a then fl.getD (arcI es b a).toNat 0 else 0)
theorem rmK_split (es : List T3) (fl : List Int) (a b : Int) : ∀ k : Nat, rmK es fl a b k = sumP (fun i => decide ((es.getD i z3).1 = a ∧ (es.getD i z3).2.1 = b)) (fun i => (es.getD i z3).2.2 - fl.getD i 0) k + sumP (fun i => decide ((es.getD i z3).1 = b ∧ (es.getD i z3).2.1 = a)) (fun i => fl.getD i 0) k
  | 0 => rfl
  | k + 1 => by
    rw [rmK, rmK_split es fl a b k, sumP, sumP]
    simp only [decide_eq_true_eq]
    omega
theorem sum_arc {es : List T3} (h : ∀ i, i + 1 < es.length → ltArc (es.getD i z3) (es.getD (i + 1) z3)) (a b : Int) (f : Nat → Int) :
    sumP (fun i => decide ((es.getD i z3).1 = a ∧ (es.getD i z3).2.1 = b)) f es.length = if 0 ≤ arcI es a b then f (arcI es a b).toNat else 0 := by
  rcases arcI_cases es a b with ⟨k, hk, h1, h2, _, e⟩ | ⟨hn, e⟩
  · rw [e, if_pos (by omega), Int.toNat_natCast]
    exact sumP_one _ hk (decide_eq_true ⟨h1, h2⟩) fun i hi hp => by
      have hp := of_decide_eq_true hp
      exact arc_once h hi hk (by omega) (by omega)
  · rw [e, if_neg (by omega)]
    exact sumP_none _ fun i hi => by simpa using hn i hi
theorem rm_eq {es : List T3} (h : ∀ i, i + 1 < es.length → ltArc (es.getD i z3) (es.getD (i + 1) z3)) (fl : List Int) (a b : Int) : rmK es fl a b es.length = rm es fl a b := by
  rw [rmK_split, sum_arc h, sum_arc h, rm]
/-- the search: the nodes in the order in which they are reached; for each the node before it. -/
structure BS where
  q : List Int
  b : Int → Int
def visit (es : List T3) (fl : List Int) (u v : Int) (st : BS) : BS := if ¬ v ∈ st.q ∧ 0 < rm es fl u v then ⟨st.q ++ [v], fun w => if w = v then u else st.b w⟩ else st
def scan (es : List T3) (fl : List Int) (u : Int) : Nat → BS → BS
  | 0, st => st
  | v + 1, st => visit es fl u v (scan es fl u v st)
def bfs (es : List T3) (fl : List Int) (n : Nat) (s : Int) : Nat → BS
  | 0 => ⟨[s], fun v => if v = s then s else -1⟩
  | i + 1 => let st := bfs es fl n s i; if i < st.q.length then scan es fl (st.q.getD i 0) n st else st
/-- what holds of the search. -/
structure BI (es : List T3) (fl : List Int) (n : Nat) (s : Int) (st : BS) : Prop where
  nd : st.q.Nodup
  rng : ∀ v ∈ st.q, 0 ≤ v ∧ v < n
  hd : st.q.getD 0 0 = s ∧ 0 < st.q.length
  inq : ∀ v, 0 ≤ v → (v ∈ st.q ↔ 0 ≤ st.b v)
  src : st.b s = s
  prev : ∀ j, 0 < j → j < st.q.length → (∃ i, i < j ∧ st.q.getD i 0 = st.b (st.q.getD j 0)) ∧ 0 < rm es fl (st.b (st.q.getD j 0)) (st.q.getD j 0)
theorem BI.visit {es : List T3} {fl : List Int} {n : Nat} {s : Int} {st : BS} (h : BI es fl n s st) {i : Nat} (hi : i < st.q.length) {v : Nat} (hv : v < n) : BI es fl n s (visit es fl (st.q.getD i 0) v st) ∧ i < (Gh.visit es fl (st.q.getD i 0) v st).q.length ∧ (Gh.visit es fl (st.q.getD i 0) v st).q.getD i 0 = st.q.getD i 0 := by
  unfold Gh.visit
  split
  · rename_i hc
    obtain ⟨h1, h2⟩ := hc
    have hu : 0 ≤ st.q.getD i 0 := (h.rng _ (by simp [List.getD, hi])).1
    have hget : ∀ j, j < st.q.length → (st.q ++ [(v : Int)]).getD j 0 = st.q.getD j 0 := fun j hj => by simp [List.getD, List.getElem?_append_left hj]
    have hlast : (st.q ++ [(v : Int)]).getD st.q.length 0 = v := by simp [List.getD]
    have hne : ∀ j, j < st.q.length → st.q.getD j 0 ≠ v := fun j hj e => h1 (by rw [← e]; simp [List.getD, hj])
    refine ⟨⟨?_, ?_, ?_, ?_, ?_, ?_⟩, by simp; omega, hget i hi⟩
    · rw [List.nodup_append]
      exact ⟨h.nd, by simp, fun a ha b hb => by simp at hb; subst hb; rintro rfl; exact h1 ha⟩
    · intro w hw
      rcases List.mem_append.1 hw with hw | hw
      · exact h.rng w hw
      · simp at hw; subst hw; omega
    · exact ⟨by rw [hget 0 (by omega)]; exact h.hd.1, by simp⟩
    · intro w hw
      by_cases hwv : w = v
      · subst hwv; simp only [if_true, hu, List.mem_append, List.mem_singleton, or_true]
      · simp only [if_neg hwv, List.mem_append, List.mem_singleton, hwv, or_false]
        exact h.inq w hw
    · dsimp only
      rw [if_neg]
      · exact h.src
      · rintro e; exact hne 0 h.hd.2 (h.hd.1.trans e)
    · intro j hj0 hj
      simp at hj
      by_cases hjl : j = st.q.length
      · subst hjl
        rw [hlast]
        simp only [if_true]
        exact ⟨⟨i, by omega, hget i hi⟩, h2⟩
      · rw [hget j (by omega)]
        simp only [if_neg (hne j (by omega))]
        obtain ⟨⟨i', hi', e⟩, h3⟩ := h.prev j hj0 (by omega)
        exact ⟨⟨i', hi', by rw [hget i' (by omega)]; exact e⟩, h3⟩
  · exact ⟨h, hi, rfl⟩
/-- different numbers below n are n at most. -/
theorem nodup_le : ∀ (n : Nat) (l : List Int), l.Nodup → (∀ v ∈ l, 0 ≤ v ∧ v < n) → l.length ≤ n
  | 0, l, _, h => by
    cases l with
    | nil => simp
    | cons a l => have := h a (by simp); omega
  | n + 1, l, hd, h => by
    have h1 : (l.erase (n : Int)).length ≤ n := nodup_le n _ (hd.erase _) fun v hv => by
      have hm := (List.Nodup.mem_erase_iff hd).1 hv
      have := h v hm.2
      have := hm.1
      omega
    have h2 := List.length_erase (a := (n : Int)) (l := l)
    split at h2 <;> omega
theorem BI.len {es : List T3} {fl : List Int} {n : Nat} {s : Int} {st : BS} (h : BI es fl n s st) : st.q.length ≤ n := nodup_le n _ h.nd h.rng
theorem BI.scan {es : List T3} {fl : List Int} {n : Nat} {s : Int} {st : BS} (h : BI es fl n s st) {i : Nat} (hi : i < st.q.length) : ∀ k : Nat, k ≤ n →
    BI es fl n s (scan es fl (st.q.getD i 0) k st) ∧ i < (Gh.scan es fl (st.q.getD i 0) k st).q.length ∧ (Gh.scan es fl (st.q.getD i 0) k st).q.getD i 0 = st.q.getD i 0
  | 0, _ => ⟨h, hi, rfl⟩
  | k + 1, hk => by
    obtain ⟨h1, h2, h3⟩ := BI.scan h hi k (by omega)
    have := h1.visit h2 (v := k) (by omega)
    rw [h3] at this
    exact this
theorem BI.init {es : List T3} {fl : List Int} {n : Nat} {s : Int} (hs : 0 ≤ s ∧ s < n) : BI es fl n s ⟨[s], fun v => if v = s then s else -1⟩ :=
  ⟨by simp, fun v hv => by simp at hv; subst hv; exact hs, by simp, fun v hv => by
    by_cases h : v = s
    · subst h; simp [hs]
    · simp [h], by simp, fun j h1 h2 => by simp at h2; omega⟩
theorem BI.bfs {es : List T3} {fl : List Int} {n : Nat} {s : Int} (hs : 0 ≤ s ∧ s < n) : ∀ i : Nat, BI es fl n s (bfs es fl n s i)
  | 0 => BI.init hs
  | i + 1 => by
    have h := BI.bfs (es := es) (fl := fl) hs i
    unfold Gh.bfs
    dsimp only
    split
    · rename_i hi
      exact (h.scan hi n (Nat.le_refl _)).1
    · exact h
theorem bfs_stop {es : List T3} {fl : List Int} {n : Nat} {s : Int} {i : Nat} (h : (bfs es fl n s i).q.length ≤ i) : ∀ d : Nat, bfs es fl n s (i + d) = bfs es fl n s i
  | 0 => rfl
  | d + 1 => by
    have ih := bfs_stop h d
    rw [show i + (d + 1) = (i + d) + 1 by omega, bfs]
    rw [if_neg (by rw [ih]; omega), ih]
/-- the whole search. -/
def reach (es : List T3) (fl : List Int) (n : Nat) (s : Int) : BS := bfs es fl n s n
theorem BI.reach {es : List T3} {fl : List Int} {n : Nat} {s : Int} (hs : 0 ≤ s ∧ s < n) : BI es fl n s (reach es fl n s) := BI.bfs hs n
theorem bfs_end {es : List T3} {fl : List Int} {n : Nat} {s : Int} (hs : 0 ≤ s ∧ s < n) {i : Nat} (h : (bfs es fl n s i).q.length ≤ i) (hin : i ≤ n) : bfs es fl n s i = reach es fl n s := by
  have := bfs_stop h (n - i)
  rw [show i + (n - i) = n by omega] at this
  exact this.symm
/-- the least room on the way back from v, and a number. -/
def minP (es : List T3) (fl : List Int) (b : Int → Int) (s : Int) : Nat → Int → Int → Int
  | 0, _, acc => acc
  | f + 1, v, acc => if v = s then acc else minP es fl b s f (b v) (if rm es fl (b v) v < acc then rm es fl (b v) v else acc)
/-- what is sent from u to v: first back, then on. -/
def push (es : List T3) (fl : List Int) (u v a : Int) : List Int :=
  let m := if fl.getD (arcI es v u).toNat 0 < a then fl.getD (arcI es v u).toNat 0 else a
  let fl1 := if 0 ≤ arcI es v u then fl.set (arcI es v u).toNat (fl.getD (arcI es v u).toNat 0 - m) else fl
  let more := if 0 ≤ arcI es v u then a - m else a
  if 0 ≤ arcI es u v then fl1.set (arcI es u v).toNat (fl1.getD (arcI es u v).toNat 0 + more) else fl1
def pushP (es : List T3) (b : Int → Int) (s a : Int) : Nat → Int → List Int → List Int
  | 0, _, fl => fl
  | f + 1, v, fl => if v = s then fl else pushP es b s a f (b v) (push es fl (b v) v a)
theorem getD_set (l : List Int) (k i : Nat) (x : Int) (h : k < l.length) : (l.set k x).getD i 0 = if i = k then x else l.getD i 0 := by
  by_cases hik : i = k
  · subst hik; simp [List.getD, h]
  · rw [if_neg hik]; simp only [List.getD]; rw [List.getElem?_set_ne (fun e => hik e.symm)]
theorem exc_set (es : List T3) (fl : List Int) (w x : Int) (k : Nat) (hk : k < fl.length) : ∀ n : Nat,
    exc es (fl.set k x) w n = exc es fl w n + if k < n then (if (es.getD k z3).2.1 = w then x - fl.getD k 0 else 0) - (if (es.getD k z3).1 = w then x - fl.getD k 0 else 0) else 0
  | 0 => by simp [exc]
  | n + 1 => by
    rw [exc, exc, exc_set es fl w x k hk n, getD_set _ _ _ _ hk]
    by_cases hkn : n = k
    · subst hkn
      simp only [if_true, Nat.lt_irrefl, if_false, Nat.lt_succ_self]
      (repeat' split) <;> omega
    · simp only [if_neg hkn]
      by_cases hlt : k < n
      · simp only [if_pos hlt, if_pos (show k < n + 1 by omega)]; omega
      · simp only [if_neg hlt, if_neg (show ¬ k < n + 1 by omega)]; omega
/-- numbers on arcs within their capacities. -/
def Cap (es : List T3) (fl : List Int) : Prop := fl.length = es.length ∧ ∀ i, i < es.length → 0 ≤ fl.getD i 0 ∧ fl.getD i 0 ≤ (es.getD i z3).2.2
def Srt (es : List T3) : Prop := ∀ i, i + 1 < es.length → ltArc (es.getD i z3) (es.getD (i + 1) z3)
theorem arcI_lt (es : List T3) (a b : Int) (h : 0 ≤ arcI es a b) : (arcI es a b).toNat < es.length ∧ (es.getD (arcI es a b).toNat z3).1 = a ∧ (es.getD (arcI es a b).toNat z3).2.1 = b := by
  rcases arcI_cases es a b with ⟨k, hk, h1, h2, _, e⟩ | ⟨_, e⟩
  · rw [e, Int.toNat_natCast]; exact ⟨hk, h1, h2⟩
  · omega
theorem arcI_diff {es : List T3} {a b c d : Int} (h : ¬ (a = c ∧ b = d)) (h1 : 0 ≤ arcI es a b) (h2 : 0 ≤ arcI es c d) : (arcI es a b).toNat ≠ (arcI es c d).toNat := fun e => by
  have p := arcI_lt es a b h1
  have q := arcI_lt es c d h2
  rw [e] at p
  exact h ⟨p.2.1.symm.trans q.2.1, p.2.2.symm.trans q.2.2⟩
/-- all that a push of a from u to v does. -/
theorem push_all {es : List T3} {fl : List Int} {u v a : Int} (hc : Cap es fl) (huv : u ≠ v) (ha : 0 ≤ a ∧ a ≤ rm es fl u v) :
    Cap es (push es fl u v a) ∧ (∀ w, exc es (push es fl u v a) w es.length = exc es fl w es.length + (if w = v then a else 0) - (if w = u then a else 0)) ∧
    ∀ i, (0 ≤ arcI es u v → i ≠ (arcI es u v).toNat) → (0 ≤ arcI es v u → i ≠ (arcI es v u).toNat) → (push es fl u v a).getD i 0 = fl.getD i 0 := by
  obtain ⟨hl, hin⟩ := hc
  unfold rm at ha
  by_cases h1 : 0 ≤ arcI es v u
  · obtain ⟨p1, p2, p3⟩ := arcI_lt es v u h1
    have pin := hin _ p1
    by_cases h2 : 0 ≤ arcI es u v
    · obtain ⟨q1, q2, q3⟩ := arcI_lt es u v h2
      have qin := hin _ q1
      have hne := arcI_diff (es := es) (a := u) (b := v) (c := v) (d := u) (fun h => huv h.1) h2 h1
      unfold push
      simp only [if_pos h1, if_pos h2] at ha ⊢
      generalize (arcI es v u).toNat = k at *
      generalize (arcI es u v).toNat = l at *
      have e1 : (fl.set k (fl.getD k 0 - if fl.getD k 0 < a then fl.getD k 0 else a)).getD l 0 = fl.getD l 0 := by rw [getD_set _ _ _ _ (by omega), if_neg hne]
      rw [e1]
      refine ⟨⟨by simp [hl], fun i hi => ?_⟩, fun w => ?_, fun i hi1 hi2 => ?_⟩
      · rw [getD_set _ _ _ _ (by rw [List.length_set]; omega), getD_set _ _ _ _ (by omega)]
        by_cases hil : i = l
        · subst hil; rw [if_pos rfl]; split <;> omega
        · rw [if_neg hil]
          by_cases hik : i = k
          · subst hik; rw [if_pos rfl]; split <;> omega
          · rw [if_neg hik]; exact hin i hi
      · rw [exc_set _ _ _ _ _ (by rw [List.length_set]; omega), exc_set _ _ _ _ _ (by omega), if_pos q1, if_pos p1, e1, p2, p3, q2, q3]
        (repeat' split) <;> omega
      · rw [getD_set _ _ _ _ (by rw [List.length_set]; omega), getD_set _ _ _ _ (by omega), if_neg (hi1 h2), if_neg (hi2 h1)]
    · unfold push
      simp only [if_pos h1, if_neg h2] at ha ⊢
      generalize (arcI es v u).toNat = k at *
      refine ⟨⟨by simp [hl], fun i hi => ?_⟩, fun w => ?_, fun i hi1 hi2 => ?_⟩
      · rw [getD_set _ _ _ _ (by omega)]
        by_cases hik : i = k
        · subst hik; rw [if_pos rfl]; split <;> omega
        · rw [if_neg hik]; exact hin i hi
      · rw [exc_set _ _ _ _ _ (by omega), if_pos p1, p2, p3]
        (repeat' split) <;> omega
      · rw [getD_set _ _ _ _ (by omega), if_neg (hi2 h1)]
  · by_cases h2 : 0 ≤ arcI es u v
    · obtain ⟨q1, q2, q3⟩ := arcI_lt es u v h2
      have qin := hin _ q1
      unfold push
      simp only [if_neg h1, if_pos h2] at ha ⊢
      generalize (arcI es u v).toNat = l at *
      refine ⟨⟨by simp [hl], fun i hi => ?_⟩, fun w => ?_, fun i hi1 hi2 => ?_⟩
      · rw [getD_set _ _ _ _ (by omega)]
        by_cases hil : i = l
        · subst hil; rw [if_pos rfl]; omega
        · rw [if_neg hil]; exact hin i hi
      · rw [exc_set _ _ _ _ _ (by omega), if_pos q1, q2, q3]
        (repeat' split) <;> omega
      · rw [getD_set _ _ _ _ (by omega), if_neg (hi1 h2)]
    · unfold push
      simp only [if_neg h1, if_neg h2] at ha ⊢
      have : a = 0 := by omega
      subst this
      exact ⟨⟨hl, hin⟩, fun w => by simp, fun i _ _ => trivial⟩
theorem rm_push {es : List T3} {fl : List Int} {u v a x y : Int} (hc : Cap es fl) (huv : u ≠ v) (ha : 0 ≤ a ∧ a ≤ rm es fl u v) (h1 : ¬ (x = u ∧ y = v)) (h2 : ¬ (x = v ∧ y = u)) : rm es (push es fl u v a) x y = rm es fl x y := by
  obtain ⟨_, _, h⟩ := push_all hc huv ha
  unfold rm
  have e1 : 0 ≤ arcI es x y → (push es fl u v a).getD (arcI es x y).toNat 0 = fl.getD (arcI es x y).toNat 0 := fun hx => h _ (fun hu => arcI_diff h1 hx hu) (fun hv => arcI_diff h2 hx hv)
  have e2 : 0 ≤ arcI es y x → (push es fl u v a).getD (arcI es y x).toNat 0 = fl.getD (arcI es y x).toNat 0 := fun hx => h _ (fun hu => arcI_diff (fun q => h2 ⟨q.2, q.1⟩) hx hu) (fun hv => arcI_diff (fun q => h1 ⟨q.2, q.1⟩) hx hv)
  split <;> split <;> simp_all
theorem mem_getD' {xs : List Int} {v : Int} : v ∈ xs ↔ ∃ i, i < xs.length ∧ xs.getD i 0 = v := by
  constructor
  · intro h
    obtain ⟨i, hi, rfl⟩ := List.getElem_of_mem h
    exact ⟨i, hi, by simp [List.getD, hi]⟩
  · rintro ⟨i, hi, rfl⟩
    simp [List.getD, hi]
/-- the nodes on the way back from v, without the source. -/
def path (b : Int → Int) (s : Int) : Nat → Int → List Int
  | 0, _ => []
  | f + 1, v => if v = s then [] else v :: path b s f (b v)
theorem minP_le (es : List T3) (fl : List Int) (b : Int → Int) (s : Int) : ∀ (f : Nat) (v acc : Int), minP es fl b s f v acc ≤ acc ∧ ∀ x ∈ path b s f v, minP es fl b s f v acc ≤ rm es fl (b x) x
  | 0, v, acc => by simp [minP, path]
  | f + 1, v, acc => by
    unfold minP path
    split
    · simp
    · have ih := minP_le es fl b s f (b v) (if rm es fl (b v) v < acc then rm es fl (b v) v else acc)
      refine ⟨?_, fun x hx => ?_⟩
      · have := ih.1; split at this <;> omega
      · rcases List.mem_cons.1 hx with rfl | hx
        · have := ih.1; split at this <;> split <;> omega
        · exact ih.2 x hx
theorem minP_pos (es : List T3) (fl : List Int) (b : Int → Int) (s : Int) : ∀ (f : Nat) (v acc : Int), 0 < acc → (∀ x ∈ path b s f v, 0 < rm es fl (b x) x) → 0 < minP es fl b s f v acc
  | 0, v, acc, h, _ => by simpa [minP] using h
  | f + 1, v, acc, h, hp => by
    unfold minP
    unfold path at hp
    split
    · exact h
    · rename_i hv
      rw [if_neg hv] at hp
      have h1 := hp v (by simp)
      exact minP_pos es fl b s f (b v) _ (by split <;> omega) fun x hx => hp x (by simp [hx])
theorem q_inj {q : List Int} (h : q.Nodup) {i j : Nat} (hi : i < q.length) (hj : j < q.length) (e : q.getD i 0 = q.getD j 0) : i = j := by
  simp only [List.getD, List.getElem?_eq_getElem hi, List.getElem?_eq_getElem hj, Option.getD_some] at e
  rcases Nat.lt_trichotomy i j with hl | rfl | hl
  · exact absurd e (List.pairwise_iff_getElem.1 h i j hi hj hl)
  · rfl
  · exact absurd e.symm (List.pairwise_iff_getElem.1 h j i hj hi hl)
theorem path_mem {es : List T3} {fl : List Int} {n : Nat} {s : Int} {st : BS} (h : BI es fl n s st) : ∀ (f j : Nat), j < st.q.length → ∀ x ∈ path st.b s f (st.q.getD j 0), ∃ i, 0 < i ∧ i ≤ j ∧ x = st.q.getD i 0
  | 0, j, hj, x, hx => by simp [path] at hx
  | f + 1, j, hj, x, hx => by
    unfold path at hx
    split at hx
    · simp at hx
    · rename_i hv
      have hj0 : 0 < j := by
        rcases Nat.eq_zero_or_pos j with rfl | h0
        · exact absurd h.hd.1 hv
        · exact h0
      rcases List.mem_cons.1 hx with rfl | hx
      · exact ⟨j, hj0, Nat.le_refl _, rfl⟩
      · obtain ⟨⟨i, hi, e⟩, _⟩ := h.prev j hj0 hj
        rw [← e] at hx
        obtain ⟨i', h1, h2, h3⟩ := path_mem h f i (by omega) x hx
        exact ⟨i', h1, by omega, h3⟩
theorem path_room {es : List T3} {fl : List Int} {n : Nat} {s : Int} {st : BS} (h : BI es fl n s st) (f j : Nat) (hj : j < st.q.length) : ∀ x ∈ path st.b s f (st.q.getD j 0), 0 < rm es fl (st.b x) x := fun x hx => by
  obtain ⟨i, h1, h2, rfl⟩ := path_mem h f j hj x hx
  exact (h.prev i h1 (by omega)).2
/-- all that the pushes along a way do. -/
theorem pushP_all {es : List T3} {fl : List Int} {n : Nat} {s : Int} {st : BS} (h : BI es fl n s st) {a : Int} (ha : 0 ≤ a) : ∀ (f j : Nat) (fl' : List Int), j < st.q.length → j ≤ f → Cap es fl' → (∀ i, 0 < i → i ≤ j → rm es fl' (st.b (st.q.getD i 0)) (st.q.getD i 0) = rm es fl (st.b (st.q.getD i 0)) (st.q.getD i 0)) →
    (∀ x ∈ path st.b s f (st.q.getD j 0), a ≤ rm es fl (st.b x) x) →
    Cap es (pushP es st.b s a f (st.q.getD j 0) fl') ∧ ∀ w, exc es (pushP es st.b s a f (st.q.getD j 0) fl') w es.length = exc es fl' w es.length + (if w = st.q.getD j 0 then a else 0) - (if w = s then a else 0)
  | 0, j, fl', hj, hjf, hc, hr, hp => by
    obtain rfl : j = 0 := by omega
    refine ⟨hc, fun w => ?_⟩
    rw [pushP, h.hd.1]; omega
  | f + 1, j, fl', hj, hjf, hc, hr, hp => by
    unfold pushP
    unfold path at hp
    split
    · rename_i hv
      exact ⟨hc, fun w => by rw [hv]; omega⟩
    · rename_i hv
      rw [if_neg hv] at hp
      have hj0 : 0 < j := by
        rcases Nat.eq_zero_or_pos j with rfl | h0
        · exact absurd h.hd.1 hv
        · exact h0
      obtain ⟨⟨i, hi, e⟩, _⟩ := h.prev j hj0 hj
      have huv : st.b (st.q.getD j 0) ≠ st.q.getD j 0 := fun e' => by
        rw [← e] at e'
        have := q_inj h.nd (by omega) hj e'
        omega
      have h1 := hp (st.q.getD j 0) (by simp)
      rw [← hr j hj0 (Nat.le_refl _)] at h1
      obtain ⟨p1, p2, _⟩ := push_all hc huv ⟨ha, h1⟩
      have ih := pushP_all h ha f i (push es fl' (st.b (st.q.getD j 0)) (st.q.getD j 0) a) (by omega) (by omega) p1 (fun k hk0 hki => by
        rw [rm_push hc huv ⟨ha, h1⟩]
        · exact hr k hk0 (by omega)
        · rintro ⟨_, e2⟩
          have := q_inj h.nd (by omega) hj e2
          omega
        · rintro ⟨e1, _⟩
          obtain ⟨⟨i', hi', e'⟩, _⟩ := h.prev k hk0 (by omega)
          rw [← e'] at e1
          have := q_inj h.nd (by omega) hj e1
          omega) (fun x hx => hp x (List.mem_cons_of_mem _ (by rw [e] at hx; exact hx)))
      rw [e] at ih
      refine ⟨ih.1, fun w => ?_⟩
      rw [ih.2 w, p2 w]
      omega
/-- one round: search, and send along the way that was found. -/
def stepF (es : List T3) (n : Nat) (s t : Int) (fl : List Int) : List Int :=
  pushP es (reach es fl n s).b s (minP es fl (reach es fl n s).b s n t 2000000) n t fl
theorem stepF_all {es : List T3} {n : Nat} {s t : Int} {fl : List Int} (hs : 0 ≤ s ∧ s < n) (ht : 0 ≤ t) (hst : s ≠ t) (hc : Cap es fl) (hb : 0 ≤ (reach es fl n s).b t) :
    Cap es (stepF es n s t fl) ∧ ∃ a, 0 < a ∧ ∀ w, exc es (stepF es n s t fl) w es.length = exc es fl w es.length + (if w = t then a else 0) - (if w = s then a else 0) := by
  have h := BI.reach (es := es) (fl := fl) (n := n) hs
  have hm := (h.inq t ht).2 hb
  obtain ⟨j, hj, e⟩ := mem_getD'.1 hm
  have hpos : 0 < minP es fl (reach es fl n s).b s n t 2000000 := minP_pos _ _ _ _ _ _ _ (by omega) (by rw [← e]; exact path_room h n j hj)
  have hle := minP_le es fl (reach es fl n s).b s n t 2000000
  have hjn : j ≤ n := by have := h.len; omega
  have := pushP_all h (Int.le_of_lt hpos) n j fl hj hjn hc (fun _ _ _ => rfl) (by rw [e]; exact hle.2)
  rw [e] at this
  exact ⟨this.1, _, hpos, this.2⟩
def Rise (xs : List Int) : Prop := ∀ i, i + 1 < xs.length → xs.getD i 0 < xs.getD (i + 1) 0
theorem mem_getD {xs : List Int} {v : Int} : v ∈ xs ↔ ∃ i, i < xs.length ∧ xs.getD i 0 = v := by
  constructor
  · intro h
    obtain ⟨i, hi, rfl⟩ := List.getElem_of_mem h
    exact ⟨i, hi, by simp [List.getD, hi]⟩
  · rintro ⟨i, hi, rfl⟩
    simp [List.getD, hi]
theorem slices_Index_ok {G : GH} {A : Option Addr} {c : Nat} {xs : List Int} {v : Int} (h : IntS G A c xs) (hl : xs.length < 2 ^ 40) {K : Value → GH → Prop}
    (hk : K (.int .i64 (idxI (fun x => decide (x = v)) xs)) G) : GC Try.prog 166 [.slice A xs.length c, .int .i64 v] G K := by
  refine c_slices_Index_int64_int64_i (by simp) ?_
  have hsn := h.sn
  have r := h.rd
  simp (maxSteps := 300000) (disch := omega) only [gs, gs2, gs3, ↓reduceIte, Nat.reduceEqDiff, Nat.mul_one, Nat.add_zero, Nat.zero_add, Nat.zero_mul, Int.toNat_natCast, Int.reduceToNat, Nat.reduceMul, Nat.reduceAdd, decide_true, decide_false, Bool.not_true, Bool.not_false, true_and, and_true, List.map_cons, List.map_nil, List.nil_append, List.cons_append, List.append_nil, Option.map_some, Option.bind_some, List.getElem?_cons_zero, List.getElem?_cons_succ, Bool.false_eq_true, not_true_eq_false, not_false_eq_true, List.contains_cons, List.contains_nil, Nat.reduceBEq, Bool.true_or, Bool.false_or, Bool.or_true, List.set_cons_zero, List.set_cons_succ, List.length_cons, List.length_nil, isLd, Bool.true_and, Bool.false_and, Bool.and_true, Bool.and_false]
  refine gLoop_intro (fun m T G' => ∃ k : Nat, T 0 = .slice A xs.length c ∧ T 1 = .int .i64 v ∧ T 7 = .int .i64 xs.length ∧ T 8 = .int .i64 k ∧ m + k = xs.length ∧ k ≤ xs.length ∧ G' = G ∧ ∀ i, i < k → xs.getD i 0 ≠ v) xs.length
    ⟨0, by simp (maxSteps := 300000) (disch := omega) only [gs, gs2, gs3, ↓reduceIte, Nat.reduceEqDiff, Nat.mul_one, Nat.add_zero, Nat.zero_add, Nat.zero_mul, Int.toNat_natCast, Int.reduceToNat, Nat.reduceMul, Nat.reduceAdd, decide_true, decide_false, Bool.not_true, Bool.not_false, true_and, and_true, List.map_cons, List.map_nil, List.nil_append, List.cons_append, List.append_nil, Option.map_some, Option.bind_some, List.getElem?_cons_zero, List.getElem?_cons_succ, Bool.false_eq_true, not_true_eq_false, not_false_eq_true, List.contains_cons, List.contains_nil, Nat.reduceBEq, Bool.true_or, Bool.false_or, Bool.or_true, List.set_cons_zero, List.set_cons_succ, List.length_cons, List.length_nil, isLd, Bool.true_and, Bool.false_and, Bool.and_true, Bool.and_false], by simp (maxSteps := 300000) (disch := omega) only [gs, gs2, gs3, ↓reduceIte, Nat.reduceEqDiff, Nat.mul_one, Nat.add_zero, Nat.zero_add, Nat.zero_mul, Int.toNat_natCast, Int.reduceToNat, Nat.reduceMul, Nat.reduceAdd, decide_true, decide_false, Bool.not_true, Bool.not_false, true_and, and_true, List.map_cons, List.map_nil, List.nil_append, List.cons_append, List.append_nil, Option.map_some, Option.bind_some, List.getElem?_cons_zero, List.getElem?_cons_succ, Bool.false_eq_true, not_true_eq_false, not_false_eq_true, List.contains_cons, List.contains_nil, Nat.reduceBEq, Bool.true_or, Bool.false_or, Bool.or_true, List.set_cons_zero, List.set_cons_succ, List.length_cons, List.length_nil, isLd, Bool.true_and, Bool.false_and, Bool.and_true, Bool.and_false], by simp (maxSteps := 300000) (disch := omega) only [gs, gs2, gs3, ↓reduceIte, Nat.reduceEqDiff, Nat.mul_one, Nat.add_zero, Nat.zero_add, Nat.zero_mul, Int.toNat_natCast, Int.reduceToNat, Nat.reduceMul, Nat.reduceAdd, decide_true, decide_false, Bool.not_true, Bool.not_false, true_and, and_true, List.map_cons, List.map_nil, List.nil_append, List.cons_append, List.append_nil, Option.map_some, Option.bind_some, List.getElem?_cons_zero, List.getElem?_cons_succ, Bool.false_eq_true, not_true_eq_false, not_false_eq_true, List.contains_cons, List.contains_nil, Nat.reduceBEq, Bool.true_or, Bool.false_or, Bool.or_true, List.set_cons_zero, List.set_cons_succ, List.length_cons, List.length_nil, isLd, Bool.true_and, Bool.false_and, Bool.and_true, Bool.and_false], by simp (maxSteps := 300000) (disch := omega) only [gs, gs2, gs3, ↓reduceIte, Nat.reduceEqDiff, Nat.mul_one, Nat.add_zero, Nat.zero_add, Nat.zero_mul, Int.toNat_natCast, Int.reduceToNat, Nat.reduceMul, Nat.reduceAdd, decide_true, decide_false, Bool.not_true, Bool.not_false, true_and, and_true, List.map_cons, List.map_nil, List.nil_append, List.cons_append, List.append_nil, Option.map_some, Option.bind_some, List.getElem?_cons_zero, List.getElem?_cons_succ, Bool.false_eq_true, not_true_eq_false, not_false_eq_true, List.contains_cons, List.contains_nil, Nat.reduceBEq, Bool.true_or, Bool.false_or, Bool.or_true, List.set_cons_zero, List.set_cons_succ, List.length_cons, List.length_nil, isLd, Bool.true_and, Bool.false_and, Bool.and_true, Bool.and_false] <;> rfl, by omega, by omega, rfl, fun i hi => by omega⟩ ?_
  rintro m T G' ⟨k, e0, e1, e7, e8, hm, hkl, rfl, hin⟩
  simp (maxSteps := 300000) (disch := omega) only [gs, gs2, gs3, ↓reduceIte, Nat.reduceEqDiff, Nat.mul_one, Nat.add_zero, Nat.zero_add, Nat.zero_mul, Int.toNat_natCast, Int.reduceToNat, Nat.reduceMul, Nat.reduceAdd, decide_true, decide_false, Bool.not_true, Bool.not_false, true_and, and_true, List.map_cons, List.map_nil, List.nil_append, List.cons_append, List.append_nil, Option.map_some, Option.bind_some, List.getElem?_cons_zero, List.getElem?_cons_succ, Bool.false_eq_true, not_true_eq_false, not_false_eq_true, List.contains_cons, List.contains_nil, Nat.reduceBEq, Bool.true_or, Bool.false_or, Bool.or_true, List.set_cons_zero, List.set_cons_succ, List.length_cons, List.length_nil, isLd, Bool.true_and, Bool.false_and, Bool.and_true, Bool.and_false, e0, e1, e7, e8]
  by_cases hkk : (k : Int) < xs.length
  · simp (maxSteps := 300000) (disch := omega) only [gs, gs2, gs3, ↓reduceIte, Nat.reduceEqDiff, Nat.mul_one, Nat.add_zero, Nat.zero_add, Nat.zero_mul, Int.toNat_natCast, Int.reduceToNat, Nat.reduceMul, Nat.reduceAdd, decide_true, decide_false, Bool.not_true, Bool.not_false, true_and, and_true, List.map_cons, List.map_nil, List.nil_append, List.cons_append, List.append_nil, Option.map_some, Option.bind_some, List.getElem?_cons_zero, List.getElem?_cons_succ, Bool.false_eq_true, not_true_eq_false, not_false_eq_true, List.contains_cons, List.contains_nil, Nat.reduceBEq, Bool.true_or, Bool.false_or, Bool.or_true, List.set_cons_zero, List.set_cons_succ, List.length_cons, List.length_nil, isLd, Bool.true_and, Bool.false_and, Bool.and_true, Bool.and_false, e0, e1, e7, e8, hkk, r]
    by_cases g1 : v = xs.getD k 0
    · simp (maxSteps := 300000) (disch := omega) only [gs, gs2, gs3, ↓reduceIte, Nat.reduceEqDiff, Nat.mul_one, Nat.add_zero, Nat.zero_add, Nat.zero_mul, Int.toNat_natCast, Int.reduceToNat, Nat.reduceMul, Nat.reduceAdd, decide_true, decide_false, Bool.not_true, Bool.not_false, true_and, and_true, List.map_cons, List.map_nil, List.nil_append, List.cons_append, List.append_nil, Option.map_some, Option.bind_some, List.getElem?_cons_zero, List.getElem?_cons_succ, Bool.false_eq_true, not_true_eq_false, not_false_eq_true, List.contains_cons, List.contains_nil, Nat.reduceBEq, Bool.true_or, Bool.false_or, Bool.or_true, List.set_cons_zero, List.set_cons_succ, List.length_cons, List.length_nil, isLd, Bool.true_and, Bool.false_and, Bool.and_true, Bool.and_false, eq_true g1, e0, e1, e7, e8]
      rw [idxI_some (k := k) (by omega) (decide_eq_true g1.symm) (fun i hi => decide_eq_false (hin i hi))] at hk; exact hk
    · rw [decide_eq_false g1]
      simp (maxSteps := 300000) (disch := omega) only [gs, gs2, gs3, ↓reduceIte, Nat.reduceEqDiff, Nat.mul_one, Nat.add_zero, Nat.zero_add, Nat.zero_mul, Int.toNat_natCast, Int.reduceToNat, Nat.reduceMul, Nat.reduceAdd, decide_true, decide_false, Bool.not_true, Bool.not_false, true_and, and_true, List.map_cons, List.map_nil, List.nil_append, List.cons_append, List.append_nil, Option.map_some, Option.bind_some, List.getElem?_cons_zero, List.getElem?_cons_succ, Bool.false_eq_true, not_true_eq_false, not_false_eq_true, List.contains_cons, List.contains_nil, Nat.reduceBEq, Bool.true_or, Bool.false_or, Bool.or_true, List.set_cons_zero, List.set_cons_succ, List.length_cons, List.length_nil, isLd, Bool.true_and, Bool.false_and, Bool.and_true, Bool.and_false, e0, e1, e7, e8]
      refine ⟨m - 1, by omega, _, Sub.refl _, k + 1, rfl, by omega, by omega, rfl, fun i hi => ?_⟩
      by_cases hik : i = k
      · subst hik; exact fun h => g1 h.symm
      · exact hin i (by omega)
  · simp (maxSteps := 300000) (disch := omega) only [gs, gs2, gs3, ↓reduceIte, Nat.reduceEqDiff, Nat.mul_one, Nat.add_zero, Nat.zero_add, Nat.zero_mul, Int.toNat_natCast, Int.reduceToNat, Nat.reduceMul, Nat.reduceAdd, decide_true, decide_false, Bool.not_true, Bool.not_false, true_and, and_true, List.map_cons, List.map_nil, List.nil_append, List.cons_append, List.append_nil, Option.map_some, Option.bind_some, List.getElem?_cons_zero, List.getElem?_cons_succ, Bool.false_eq_true, not_true_eq_false, not_false_eq_true, List.contains_cons, List.contains_nil, Nat.reduceBEq, Bool.true_or, Bool.false_or, Bool.or_true, List.set_cons_zero, List.set_cons_succ, List.length_cons, List.length_nil, isLd, Bool.true_and, Bool.false_and, Bool.and_true, Bool.and_false, e0, e1, e7, e8, hkk]
    rw [idxI_none (fun i hi => decide_eq_false (hin i (by omega)))] at hk; exact hk
theorem idxI_mem {xs : List Int} {v : Int} : 0 ≤ idxI (fun x => decide (x = v)) xs ↔ v ∈ xs := by
  unfold idxI
  cases hi : xs.findIdx? fun x => decide (x = v) with
  | none =>
    rw [List.findIdx?_eq_none_iff] at hi
    simp
    intro hx
    simpa using hi v hx
  | some i =>
    rw [List.findIdx?_eq_some_iff_getElem] at hi
    obtain ⟨h1, h2, _⟩ := hi
    simp at h2
    simp
    rw [← h2]; exact List.getElem_mem h1
theorem slices_Contains_ok {G : GH} {A : Option Addr} {c : Nat} {xs : List Int} {v : Int} (h : IntS G A c xs) (hl : xs.length < 2 ^ 40) {K : Value → GH → Prop}
    (hk : ∀ b : Bool, (b = true ↔ v ∈ xs) → K (.bool b) G) : GC Try.prog 137 [.slice A xs.length c, .int .i64 v] G K := by
  refine c_slices_Contains_int64_int64_i (by simp) ?_
  simp (maxSteps := 300000) (disch := omega) only [gs, gs2, gs3, ↓reduceIte, Nat.reduceEqDiff, Nat.mul_one, Nat.add_zero, Nat.zero_add, Nat.zero_mul, Int.toNat_natCast, Int.reduceToNat, Nat.reduceMul, Nat.reduceAdd, decide_true, decide_false, Bool.not_true, Bool.not_false, true_and, and_true, List.map_cons, List.map_nil, List.nil_append, List.cons_append, List.append_nil, Option.map_some, Option.bind_some, List.getElem?_cons_zero, List.getElem?_cons_succ, Bool.false_eq_true, not_true_eq_false, not_false_eq_true, List.contains_cons, List.contains_nil, Nat.reduceBEq, Bool.true_or, Bool.false_or, Bool.or_true, List.set_cons_zero, List.set_cons_succ, List.length_cons, List.length_nil, isLd, Bool.true_and, Bool.false_and, Bool.and_true, Bool.and_false]
  refine slices_Index_ok h hl ?_
  simp (maxSteps := 300000) (disch := omega) only [gs, gs2, gs3, ↓reduceIte, Nat.reduceEqDiff, Nat.mul_one, Nat.add_zero, Nat.zero_add, Nat.zero_mul, Int.toNat_natCast, Int.reduceToNat, Nat.reduceMul, Nat.reduceAdd, decide_true, decide_false, Bool.not_true, Bool.not_false, true_and, and_true, List.map_cons, List.map_nil, List.nil_append, List.cons_append, List.append_nil, Option.map_some, Option.bind_some, List.getElem?_cons_zero, List.getElem?_cons_succ, Bool.false_eq_true, not_true_eq_false, not_false_eq_true, List.contains_cons, List.contains_nil, Nat.reduceBEq, Bool.true_or, Bool.false_or, Bool.or_true, List.set_cons_zero, List.set_cons_succ, List.length_cons, List.length_nil, isLd, Bool.true_and, Bool.false_and, Bool.and_true, Bool.and_false]
  exact hk _ (by rw [decide_eq_true_eq]; exact idxI_mem)
theorem impl_arcOf_ok {G : GH} {N : Net} {A : Option Addr} {c : Nat} {a b : Int} (h : T3S G A c N.arcs) (hl : N.arcs.length < 2 ^ 40) {K : Value → GH → Prop}
    (hk : K (.int .i64 (arcI N.arcs a b)) G) : GC Try.prog 259 [netV N A c, .int .i64 a, .int .i64 b] G K := by
  refine GC_drop (c_impl_arcOf_i (by simp) ?_)
  unfold netV netC
  simp (maxSteps := 300000) (disch := omega) only [gs, gs2, gs3, ↓reduceIte, Nat.reduceEqDiff, Nat.mul_one, Nat.add_zero, Nat.zero_add, Nat.zero_mul, Int.toNat_natCast, Int.reduceToNat, Nat.reduceMul, Nat.reduceAdd, decide_true, decide_false, Bool.not_true, Bool.not_false, true_and, and_true, List.map_cons, List.map_nil, List.nil_append, List.cons_append, List.append_nil, Option.map_some, Option.bind_some, List.getElem?_cons_zero, List.getElem?_cons_succ, Bool.false_eq_true, not_true_eq_false, not_false_eq_true, List.contains_cons, List.contains_nil, Nat.reduceBEq, Bool.true_or, Bool.false_or, Bool.or_true, List.set_cons_zero, List.set_cons_succ, List.length_cons, List.length_nil, isLd, Bool.true_and, Bool.false_and, Bool.and_true, Bool.and_false]
  intro b1 hb1
  simp (maxSteps := 300000) (disch := omega) only [gs, gs2, gs3, ↓reduceIte, Nat.reduceEqDiff, Nat.mul_one, Nat.add_zero, Nat.zero_add, Nat.zero_mul, Int.toNat_natCast, Int.reduceToNat, Nat.reduceMul, Nat.reduceAdd, decide_true, decide_false, Bool.not_true, Bool.not_false, true_and, and_true, List.map_cons, List.map_nil, List.nil_append, List.cons_append, List.append_nil, Option.map_some, Option.bind_some, List.getElem?_cons_zero, List.getElem?_cons_succ, Bool.false_eq_true, not_true_eq_false, not_false_eq_true, List.contains_cons, List.contains_nil, Nat.reduceBEq, Bool.true_or, Bool.false_or, Bool.or_true, List.set_cons_zero, List.set_cons_succ, List.length_cons, List.length_nil, isLd, Bool.true_and, Bool.false_and, Bool.and_true, Bool.and_false]
  intro b2 hb2
  simp (maxSteps := 300000) (disch := omega) only [gs, gs2, gs3, ↓reduceIte, Nat.reduceEqDiff, Nat.mul_one, Nat.add_zero, Nat.zero_add, Nat.zero_mul, Int.toNat_natCast, Int.reduceToNat, Nat.reduceMul, Nat.reduceAdd, decide_true, decide_false, Bool.not_true, Bool.not_false, true_and, and_true, List.map_cons, List.map_nil, List.nil_append, List.cons_append, List.append_nil, Option.map_some, Option.bind_some, List.getElem?_cons_zero, List.getElem?_cons_succ, Bool.false_eq_true, not_true_eq_false, not_false_eq_true, List.contains_cons, List.contains_nil, Nat.reduceBEq, Bool.true_or, Bool.false_or, Bool.or_true, List.set_cons_zero, List.set_cons_succ, List.length_cons, List.length_nil, isLd, Bool.true_and, Bool.false_and, Bool.and_true, Bool.and_false]
  intro b3 hb3
  have q2 := hb2
  have q3 := hb3
  simp only [put_none] at q2 q3
  simp (maxSteps := 300000) (disch := omega) only [gs, gs2, gs3, ↓reduceIte, Nat.reduceEqDiff, Nat.mul_one, Nat.add_zero, Nat.zero_add, Nat.zero_mul, Int.toNat_natCast, Int.reduceToNat, Nat.reduceMul, Nat.reduceAdd, decide_true, decide_false, Bool.not_true, Bool.not_false, true_and, and_true, List.map_cons, List.map_nil, List.nil_append, List.cons_append, List.append_nil, Option.map_some, Option.bind_some, List.getElem?_cons_zero, List.getElem?_cons_succ, Bool.false_eq_true, not_true_eq_false, not_false_eq_true, List.contains_cons, List.contains_nil, Nat.reduceBEq, Bool.true_or, Bool.false_or, Bool.or_true, List.set_cons_zero, List.set_cons_succ, List.length_cons, List.length_nil, isLd, Bool.true_and, Bool.false_and, Bool.and_true, Bool.and_false]
  have s1 := (((Sub.refl G).skip hb1 (e := ⟨[.int .i64 N.n, .int .i64 N.s, .int .i64 N.t, .slice A N.arcs.length c], true⟩)).skip q2.2 (e := ⟨[.int .i64 a], true⟩)).skip q3.2.2 (e := ⟨[.int .i64 b], true⟩)
  have fa : rd (put (put (put G b1 ⟨[.int .i64 N.n, .int .i64 N.s, .int .i64 N.t, .slice A N.arcs.length c], true⟩) b2 ⟨[.int .i64 a], true⟩) b3 ⟨[.int .i64 b], true⟩) (some ⟨b2, 0, none⟩) = some (.int .i64 a) := by
    rw [rd_put_ne _ _ _ _ _ (by omega)]; exact rd_box _ _ _ 0 _ rfl
  have fb : rd (put (put (put G b1 ⟨[.int .i64 N.n, .int .i64 N.s, .int .i64 N.t, .slice A N.arcs.length c], true⟩) b2 ⟨[.int .i64 a], true⟩) b3 ⟨[.int .i64 b], true⟩) (some ⟨b3, 0, none⟩) = some (.int .i64 b) := rd_box _ _ _ 0 _ rfl
  revert s1 fa fb
  generalize put (put (put G b1 ⟨[.int .i64 N.n, .int .i64 N.s, .int .i64 N.t, .slice A N.arcs.length c], true⟩) b2 ⟨[.int .i64 a], true⟩) b3 ⟨[.int .i64 b], true⟩ = G1
  intro s1 fa fb
  have hh := h.sub s1
  have hsn := hh.sn
  have p0 := hh.r0
  have p1 := hh.r1
  have p2 := hh.r2
  refine c_slices_IndexFunc_impl_Arc_impl_Arc_i (by simp) ?_
  simp (maxSteps := 300000) (disch := omega) only [gs, gs2, gs3, ↓reduceIte, Nat.reduceEqDiff, Nat.mul_one, Nat.add_zero, Nat.zero_add, Nat.zero_mul, Int.toNat_natCast, Int.reduceToNat, Nat.reduceMul, Nat.reduceAdd, decide_true, decide_false, Bool.not_true, Bool.not_false, true_and, and_true, List.map_cons, List.map_nil, List.nil_append, List.cons_append, List.append_nil, Option.map_some, Option.bind_some, List.getElem?_cons_zero, List.getElem?_cons_succ, Bool.false_eq_true, not_true_eq_false, not_false_eq_true, List.contains_cons, List.contains_nil, Nat.reduceBEq, Bool.true_or, Bool.false_or, Bool.or_true, List.set_cons_zero, List.set_cons_succ, List.length_cons, List.length_nil, isLd, Bool.true_and, Bool.false_and, Bool.and_true, Bool.and_false]
  refine gLoop_intro (fun m T G' => ∃ k : Nat, T 0 = .slice A N.arcs.length c ∧ T 1 = .func (.func 263) #[] #[.pointer (some ⟨b2, 0, none⟩), .pointer (some ⟨b3, 0, none⟩)] ∧ T 7 = .int .i64 N.arcs.length ∧ T 8 = .int .i64 k ∧ m + k = N.arcs.length ∧ k ≤ N.arcs.length ∧ G' = G1 ∧ ∀ i, i < k → ¬ ((N.arcs.getD i z3).1 = a ∧ (N.arcs.getD i z3).2.1 = b)) N.arcs.length
    ⟨0, by simp (maxSteps := 300000) (disch := omega) only [gs, gs2, gs3, ↓reduceIte, Nat.reduceEqDiff, Nat.mul_one, Nat.add_zero, Nat.zero_add, Nat.zero_mul, Int.toNat_natCast, Int.reduceToNat, Nat.reduceMul, Nat.reduceAdd, decide_true, decide_false, Bool.not_true, Bool.not_false, true_and, and_true, List.map_cons, List.map_nil, List.nil_append, List.cons_append, List.append_nil, Option.map_some, Option.bind_some, List.getElem?_cons_zero, List.getElem?_cons_succ, Bool.false_eq_true, not_true_eq_false, not_false_eq_true, List.contains_cons, List.contains_nil, Nat.reduceBEq, Bool.true_or, Bool.false_or, Bool.or_true, List.set_cons_zero, List.set_cons_succ, List.length_cons, List.length_nil, isLd, Bool.true_and, Bool.false_and, Bool.and_true, Bool.and_false], by simp (maxSteps := 300000) (disch := omega) only [gs, gs2, gs3, ↓reduceIte, Nat.reduceEqDiff, Nat.mul_one, Nat.add_zero, Nat.zero_add, Nat.zero_mul, Int.toNat_natCast, Int.reduceToNat, Nat.reduceMul, Nat.reduceAdd, decide_true, decide_false, Bool.not_true, Bool.not_false, true_and, and_true, List.map_cons, List.map_nil, List.nil_append, List.cons_append, List.append_nil, Option.map_some, Option.bind_some, List.getElem?_cons_zero, List.getElem?_cons_succ, Bool.false_eq_true, not_true_eq_false, not_false_eq_true, List.contains_cons, List.contains_nil, Nat.reduceBEq, Bool.true_or, Bool.false_or, Bool.or_true, List.set_cons_zero, List.set_cons_succ, List.length_cons, List.length_nil, isLd, Bool.true_and, Bool.false_and, Bool.and_true, Bool.and_false] <;> rfl, by simp (maxSteps := 300000) (disch := omega) only [gs, gs2, gs3, ↓reduceIte, Nat.reduceEqDiff, Nat.mul_one, Nat.add_zero, Nat.zero_add, Nat.zero_mul, Int.toNat_natCast, Int.reduceToNat, Nat.reduceMul, Nat.reduceAdd, decide_true, decide_false, Bool.not_true, Bool.not_false, true_and, and_true, List.map_cons, List.map_nil, List.nil_append, List.cons_append, List.append_nil, Option.map_some, Option.bind_some, List.getElem?_cons_zero, List.getElem?_cons_succ, Bool.false_eq_true, not_true_eq_false, not_false_eq_true, List.contains_cons, List.contains_nil, Nat.reduceBEq, Bool.true_or, Bool.false_or, Bool.or_true, List.set_cons_zero, List.set_cons_succ, List.length_cons, List.length_nil, isLd, Bool.true_and, Bool.false_and, Bool.and_true, Bool.and_false], by simp (maxSteps := 300000) (disch := omega) only [gs, gs2, gs3, ↓reduceIte, Nat.reduceEqDiff, Nat.mul_one, Nat.add_zero, Nat.zero_add, Nat.zero_mul, Int.toNat_natCast, Int.reduceToNat, Nat.reduceMul, Nat.reduceAdd, decide_true, decide_false, Bool.not_true, Bool.not_false, true_and, and_true, List.map_cons, List.map_nil, List.nil_append, List.cons_append, List.append_nil, Option.map_some, Option.bind_some, List.getElem?_cons_zero, List.getElem?_cons_succ, Bool.false_eq_true, not_true_eq_false, not_false_eq_true, List.contains_cons, List.contains_nil, Nat.reduceBEq, Bool.true_or, Bool.false_or, Bool.or_true, List.set_cons_zero, List.set_cons_succ, List.length_cons, List.length_nil, isLd, Bool.true_and, Bool.false_and, Bool.and_true, Bool.and_false] <;> rfl, by omega, by omega, rfl, fun i hi => by omega⟩ ?_
  rintro m T G' ⟨k, e0, e1, e7, e8, hm, hkl, rfl, hin⟩
  simp (maxSteps := 300000) (disch := omega) only [gs, gs2, gs3, ↓reduceIte, Nat.reduceEqDiff, Nat.mul_one, Nat.add_zero, Nat.zero_add, Nat.zero_mul, Int.toNat_natCast, Int.reduceToNat, Nat.reduceMul, Nat.reduceAdd, decide_true, decide_false, Bool.not_true, Bool.not_false, true_and, and_true, List.map_cons, List.map_nil, List.nil_append, List.cons_append, List.append_nil, Option.map_some, Option.bind_some, List.getElem?_cons_zero, List.getElem?_cons_succ, Bool.false_eq_true, not_true_eq_false, not_false_eq_true, List.contains_cons, List.contains_nil, Nat.reduceBEq, Bool.true_or, Bool.false_or, Bool.or_true, List.set_cons_zero, List.set_cons_succ, List.length_cons, List.length_nil, isLd, Bool.true_and, Bool.false_and, Bool.and_true, Bool.and_false, e0, e1, e7, e8]
  by_cases hkk : (k : Int) < N.arcs.length
  · simp (maxSteps := 300000) (disch := omega) only [gs, gs2, gs3, ↓reduceIte, Nat.reduceEqDiff, Nat.mul_one, Nat.add_zero, Nat.zero_add, Nat.zero_mul, Int.toNat_natCast, Int.reduceToNat, Nat.reduceMul, Nat.reduceAdd, decide_true, decide_false, Bool.not_true, Bool.not_false, true_and, and_true, List.map_cons, List.map_nil, List.nil_append, List.cons_append, List.append_nil, Option.map_some, Option.bind_some, List.getElem?_cons_zero, List.getElem?_cons_succ, Bool.false_eq_true, not_true_eq_false, not_false_eq_true, List.contains_cons, List.contains_nil, Nat.reduceBEq, Bool.true_or, Bool.false_or, Bool.or_true, List.set_cons_zero, List.set_cons_succ, List.length_cons, List.length_nil, isLd, Bool.true_and, Bool.false_and, Bool.and_true, Bool.and_false, e0, e1, e7, e8, hkk, p0, p1, p2]
    refine GC_drop (c_impl_arcOf_fn1_i (by simp) ?_)
    simp (maxSteps := 300000) (disch := omega) only [gs, gs2, gs3, ↓reduceIte, Nat.reduceEqDiff, Nat.mul_one, Nat.add_zero, Nat.zero_add, Nat.zero_mul, Int.toNat_natCast, Int.reduceToNat, Nat.reduceMul, Nat.reduceAdd, decide_true, decide_false, Bool.not_true, Bool.not_false, true_and, and_true, List.map_cons, List.map_nil, List.nil_append, List.cons_append, List.append_nil, Option.map_some, Option.bind_some, List.getElem?_cons_zero, List.getElem?_cons_succ, Bool.false_eq_true, not_true_eq_false, not_false_eq_true, List.contains_cons, List.contains_nil, Nat.reduceBEq, Bool.true_or, Bool.false_or, Bool.or_true, List.set_cons_zero, List.set_cons_succ, List.length_cons, List.length_nil, isLd, Bool.true_and, Bool.false_and, Bool.and_true, Bool.and_false]
    intro b4 hb4
    have s4 := Sub.put hb4 ⟨c3 (N.arcs.getD k z3), true⟩
    have ga := rd_sub s4 fa
    have gb := rd_sub s4 fb
    unfold c3 at s4 ga gb
    simp (maxSteps := 300000) (disch := omega) only [gs, gs2, gs3, ↓reduceIte, Nat.reduceEqDiff, Nat.mul_one, Nat.add_zero, Nat.zero_add, Nat.zero_mul, Int.toNat_natCast, Int.reduceToNat, Nat.reduceMul, Nat.reduceAdd, decide_true, decide_false, Bool.not_true, Bool.not_false, true_and, and_true, List.map_cons, List.map_nil, List.nil_append, List.cons_append, List.append_nil, Option.map_some, Option.bind_some, List.getElem?_cons_zero, List.getElem?_cons_succ, Bool.false_eq_true, not_true_eq_false, not_false_eq_true, List.contains_cons, List.contains_nil, Nat.reduceBEq, Bool.true_or, Bool.false_or, Bool.or_true, List.set_cons_zero, List.set_cons_succ, List.length_cons, List.length_nil, isLd, Bool.true_and, Bool.false_and, Bool.and_true, Bool.and_false, ga, gb]
    have hno : ¬ ((N.arcs.getD k z3).1 = a ∧ (N.arcs.getD k z3).2.1 = b) → ∀ i, i < k + 1 → ¬ ((N.arcs.getD i z3).1 = a ∧ (N.arcs.getD i z3).2.1 = b) := fun hx i hi => by
      by_cases hik : i = k
      · subst hik; exact hx
      · exact hin i (by omega)
    by_cases g1 : (N.arcs.getD k z3).1 = a
    · simp (maxSteps := 300000) (disch := omega) only [gs, gs2, gs3, ↓reduceIte, Nat.reduceEqDiff, Nat.mul_one, Nat.add_zero, Nat.zero_add, Nat.zero_mul, Int.toNat_natCast, Int.reduceToNat, Nat.reduceMul, Nat.reduceAdd, decide_true, decide_false, Bool.not_true, Bool.not_false, true_and, and_true, List.map_cons, List.map_nil, List.nil_append, List.cons_append, List.append_nil, Option.map_some, Option.bind_some, List.getElem?_cons_zero, List.getElem?_cons_succ, Bool.false_eq_true, not_true_eq_false, not_false_eq_true, List.contains_cons, List.contains_nil, Nat.reduceBEq, Bool.true_or, Bool.false_or, Bool.or_true, List.set_cons_zero, List.set_cons_succ, List.length_cons, List.length_nil, isLd, Bool.true_and, Bool.false_and, Bool.and_true, Bool.and_false, eq_true g1, ga, gb]
      by_cases g2 : (N.arcs.getD k z3).2.1 = b
      · simp (maxSteps := 300000) (disch := omega) only [gs, gs2, gs3, ↓reduceIte, Nat.reduceEqDiff, Nat.mul_one, Nat.add_zero, Nat.zero_add, Nat.zero_mul, Int.toNat_natCast, Int.reduceToNat, Nat.reduceMul, Nat.reduceAdd, decide_true, decide_false, Bool.not_true, Bool.not_false, true_and, and_true, List.map_cons, List.map_nil, List.nil_append, List.cons_append, List.append_nil, Option.map_some, Option.bind_some, List.getElem?_cons_zero, List.getElem?_cons_succ, Bool.false_eq_true, not_true_eq_false, not_false_eq_true, List.contains_cons, List.contains_nil, Nat.reduceBEq, Bool.true_or, Bool.false_or, Bool.or_true, List.set_cons_zero, List.set_cons_succ, List.length_cons, List.length_nil, isLd, Bool.true_and, Bool.false_and, Bool.and_true, Bool.and_false, eq_true g2, ga, gb]
        refine ⟨G', s4, ?_⟩
        refine ⟨G, s1, ?_⟩
        rw [arcI_some (by omega) ⟨g1, g2⟩ hin] at hk
        exact hk
      · rw [decide_eq_false g2]
        simp (maxSteps := 300000) (disch := omega) only [gs, gs2, gs3, ↓reduceIte, Nat.reduceEqDiff, Nat.mul_one, Nat.add_zero, Nat.zero_add, Nat.zero_mul, Int.toNat_natCast, Int.reduceToNat, Nat.reduceMul, Nat.reduceAdd, decide_true, decide_false, Bool.not_true, Bool.not_false, true_and, and_true, List.map_cons, List.map_nil, List.nil_append, List.cons_append, List.append_nil, Option.map_some, Option.bind_some, List.getElem?_cons_zero, List.getElem?_cons_succ, Bool.false_eq_true, not_true_eq_false, not_false_eq_true, List.contains_cons, List.contains_nil, Nat.reduceBEq, Bool.true_or, Bool.false_or, Bool.or_true, List.set_cons_zero, List.set_cons_succ, List.length_cons, List.length_nil, isLd, Bool.true_and, Bool.false_and, Bool.and_true, Bool.and_false, ga, gb]
        refine ⟨G', s4, ?_⟩
        simp (maxSteps := 300000) (disch := omega) only [gs, gs2, gs3, ↓reduceIte, Nat.reduceEqDiff, Nat.mul_one, Nat.add_zero, Nat.zero_add, Nat.zero_mul, Int.toNat_natCast, Int.reduceToNat, Nat.reduceMul, Nat.reduceAdd, decide_true, decide_false, Bool.not_true, Bool.not_false, true_and, and_true, List.map_cons, List.map_nil, List.nil_append, List.cons_append, List.append_nil, Option.map_some, Option.bind_some, List.getElem?_cons_zero, List.getElem?_cons_succ, Bool.false_eq_true, not_true_eq_false, not_false_eq_true, List.contains_cons, List.contains_nil, Nat.reduceBEq, Bool.true_or, Bool.false_or, Bool.or_true, List.set_cons_zero, List.set_cons_succ, List.length_cons, List.length_nil, isLd, Bool.true_and, Bool.false_and, Bool.and_true, Bool.and_false, e0, e1, e7, e8]
        exact ⟨m - 1, by omega, _, Sub.refl _, k + 1, rfl, by omega, by omega, rfl, hno fun hx => g2 hx.2⟩
    · rw [decide_eq_false g1]
      simp (maxSteps := 300000) (disch := omega) only [gs, gs2, gs3, ↓reduceIte, Nat.reduceEqDiff, Nat.mul_one, Nat.add_zero, Nat.zero_add, Nat.zero_mul, Int.toNat_natCast, Int.reduceToNat, Nat.reduceMul, Nat.reduceAdd, decide_true, decide_false, Bool.not_true, Bool.not_false, true_and, and_true, List.map_cons, List.map_nil, List.nil_append, List.cons_append, List.append_nil, Option.map_some, Option.bind_some, List.getElem?_cons_zero, List.getElem?_cons_succ, Bool.false_eq_true, not_true_eq_false, not_false_eq_true, List.contains_cons, List.contains_nil, Nat.reduceBEq, Bool.true_or, Bool.false_or, Bool.or_true, List.set_cons_zero, List.set_cons_succ, List.length_cons, List.length_nil, isLd, Bool.true_and, Bool.false_and, Bool.and_true, Bool.and_false, ga, gb]
      refine ⟨G', s4, ?_⟩
      simp (maxSteps := 300000) (disch := omega) only [gs, gs2, gs3, ↓reduceIte, Nat.reduceEqDiff, Nat.mul_one, Nat.add_zero, Nat.zero_add, Nat.zero_mul, Int.toNat_natCast, Int.reduceToNat, Nat.reduceMul, Nat.reduceAdd, decide_true, decide_false, Bool.not_true, Bool.not_false, true_and, and_true, List.map_cons, List.map_nil, List.nil_append, List.cons_append, List.append_nil, Option.map_some, Option.bind_some, List.getElem?_cons_zero, List.getElem?_cons_succ, Bool.false_eq_true, not_true_eq_false, not_false_eq_true, List.contains_cons, List.contains_nil, Nat.reduceBEq, Bool.true_or, Bool.false_or, Bool.or_true, List.set_cons_zero, List.set_cons_succ, List.length_cons, List.length_nil, isLd, Bool.true_and, Bool.false_and, Bool.and_true, Bool.and_false, e0, e1, e7, e8]
      exact ⟨m - 1, by omega, _, Sub.refl _, k + 1, rfl, by omega, by omega, rfl, hno fun hx => g1 hx.1⟩
  · simp (maxSteps := 300000) (disch := omega) only [gs, gs2, gs3, ↓reduceIte, Nat.reduceEqDiff, Nat.mul_one, Nat.add_zero, Nat.zero_add, Nat.zero_mul, Int.toNat_natCast, Int.reduceToNat, Nat.reduceMul, Nat.reduceAdd, decide_true, decide_false, Bool.not_true, Bool.not_false, true_and, and_true, List.map_cons, List.map_nil, List.nil_append, List.cons_append, List.append_nil, Option.map_some, Option.bind_some, List.getElem?_cons_zero, List.getElem?_cons_succ, Bool.false_eq_true, not_true_eq_false, not_false_eq_true, List.contains_cons, List.contains_nil, Nat.reduceBEq, Bool.true_or, Bool.false_or, Bool.or_true, List.set_cons_zero, List.set_cons_succ, List.length_cons, List.length_nil, isLd, Bool.true_and, Bool.false_and, Bool.and_true, Bool.and_false, e0, e1, e7, e8, hkk]
    refine ⟨G, s1, ?_⟩
    rw [arcI_none fun i hi => hin i (by omega)] at hk
    exact hk
theorem cap_bd {N : Net} (hn : NetOk N) {fl : List Int} (hc : Cap N.arcs fl) {k : Nat} (hk : k < N.arcs.length) : 0 ≤ fl.getD k 0 ∧ fl.getD k 0 ≤ (N.arcs.getD k z3).2.2 ∧ (N.arcs.getD k z3).2.2 ≤ 1000000 :=
  ⟨(hc.2 k hk).1, (hc.2 k hk).2, (hn.2.2.2.2.1.1 k hk).2.2.2.2⟩
theorem rmK_bd {N : Net} (hn : NetOk N) {fl : List Int} (hc : Cap N.arcs fl) (a b : Int) : ∀ k : Nat, k ≤ N.arcs.length → 0 ≤ rmK N.arcs fl a b k ∧ rmK N.arcs fl a b k ≤ 2000000 * k
  | 0, _ => by simp [rmK]
  | k + 1, hk => by
    have ih := rmK_bd hn hc a b k (by omega)
    have := cap_bd hn hc (k := k) (by omega)
    unfold rmK
    (repeat' split) <;> omega
theorem impl_room_ok {G : GH} {N : Net} {A B : Option Addr} {c d : Nat} {fl : List Int} {a b : Int} (h : T3S G A c N.arcs) (hf : IntS G B d fl) (hn : NetOk N) (hc : Cap N.arcs fl) {K : Value → GH → Prop}
    (hk : K (.int .i64 (rm N.arcs fl a b)) G) : GC Try.prog 258 [netV N A c, .slice B fl.length d, .int .i64 a, .int .i64 b] G K := by
  refine GC_drop (c_impl_room_i (by simp) ?_)
  have hn5 := hn.2.2.2.2.2
  have hlen := hc.1
  unfold netV netC
  simp (maxSteps := 300000) (disch := omega) only [gs, gs2, gs3, ↓reduceIte, Nat.reduceEqDiff, Nat.mul_one, Nat.add_zero, Nat.zero_add, Nat.zero_mul, Int.toNat_natCast, Int.reduceToNat, Nat.reduceMul, Nat.reduceAdd, decide_true, decide_false, Bool.not_true, Bool.not_false, true_and, and_true, List.map_cons, List.map_nil, List.nil_append, List.cons_append, List.append_nil, Option.map_some, Option.bind_some, List.getElem?_cons_zero, List.getElem?_cons_succ, Bool.false_eq_true, not_true_eq_false, not_false_eq_true, List.contains_cons, List.contains_nil, Nat.reduceBEq, Bool.true_or, Bool.false_or, Bool.or_true, List.set_cons_zero, List.set_cons_succ, List.length_cons, List.length_nil, isLd, Bool.true_and, Bool.false_and, Bool.and_true, Bool.and_false]
  intro b1 hb1
  simp (maxSteps := 300000) (disch := omega) only [gs, gs2, gs3, ↓reduceIte, Nat.reduceEqDiff, Nat.mul_one, Nat.add_zero, Nat.zero_add, Nat.zero_mul, Int.toNat_natCast, Int.reduceToNat, Nat.reduceMul, Nat.reduceAdd, decide_true, decide_false, Bool.not_true, Bool.not_false, true_and, and_true, List.map_cons, List.map_nil, List.nil_append, List.cons_append, List.append_nil, Option.map_some, Option.bind_some, List.getElem?_cons_zero, List.getElem?_cons_succ, Bool.false_eq_true, not_true_eq_false, not_false_eq_true, List.contains_cons, List.contains_nil, Nat.reduceBEq, Bool.true_or, Bool.false_or, Bool.or_true, List.set_cons_zero, List.set_cons_succ, List.length_cons, List.length_nil, isLd, Bool.true_and, Bool.false_and, Bool.and_true, Bool.and_false]
  have s1 := Sub.put hb1 ⟨[.int .i64 N.n, .int .i64 N.s, .int .i64 N.t, .slice A N.arcs.length c], true⟩
  have f3 : rd (put G b1 ⟨[.int .i64 N.n, .int .i64 N.s, .int .i64 N.t, .slice A N.arcs.length c], true⟩) (some ⟨b1, 3, none⟩) = some (.slice A N.arcs.length c) := rd_box _ _ _ 3 _ rfl
  have f0 : rd (put G b1 ⟨[.int .i64 N.n, .int .i64 N.s, .int .i64 N.t, .slice A N.arcs.length c], true⟩) (some ⟨b1, 0, none⟩) = some (.int .i64 N.n) := rd_box _ _ _ 0 _ rfl
  have f1 : rd (put G b1 ⟨[.int .i64 N.n, .int .i64 N.s, .int .i64 N.t, .slice A N.arcs.length c], true⟩) (some ⟨b1, 1, none⟩) = some (.int .i64 N.s) := rd_box _ _ _ 1 _ rfl
  have f2 : rd (put G b1 ⟨[.int .i64 N.n, .int .i64 N.s, .int .i64 N.t, .slice A N.arcs.length c], true⟩) (some ⟨b1, 2, none⟩) = some (.int .i64 N.t) := rd_box _ _ _ 2 _ rfl
  revert s1 f0 f1 f2 f3
  generalize put G b1 ⟨[.int .i64 N.n, .int .i64 N.s, .int .i64 N.t, .slice A N.arcs.length c], true⟩ = G1
  intro s1 f0 f1 f2 f3
  have hh := h.sub s1
  have hff := hf.sub s1
  have hsn := hh.sn
  have hsf := hff.sn
  have p2 := hh.r2
  have r := hff.rd
  refine impl_arcOf_ok (N := N) (a := a) (b := b) hh (by omega) ?_
  unfold rm at hk
  simp (maxSteps := 300000) (disch := omega) only [gs, gs2, gs3, ↓reduceIte, Nat.reduceEqDiff, Nat.mul_one, Nat.add_zero, Nat.zero_add, Nat.zero_mul, Int.toNat_natCast, Int.reduceToNat, Nat.reduceMul, Nat.reduceAdd, decide_true, decide_false, Bool.not_true, Bool.not_false, true_and, and_true, List.map_cons, List.map_nil, List.nil_append, List.cons_append, List.append_nil, Option.map_some, Option.bind_some, List.getElem?_cons_zero, List.getElem?_cons_succ, Bool.false_eq_true, not_true_eq_false, not_false_eq_true, List.contains_cons, List.contains_nil, Nat.reduceBEq, Bool.true_or, Bool.false_or, Bool.or_true, List.set_cons_zero, List.set_cons_succ, List.length_cons, List.length_nil, isLd, Bool.true_and, Bool.false_and, Bool.and_true, Bool.and_false, f0, f1, f2, f3]
  have second : ∀ x : Int, 0 ≤ x → x ≤ 1000000 → ∀ K' : Prop, True := fun _ _ _ _ => trivial
  by_cases g1 : 0 ≤ arcI N.arcs a b
  · obtain ⟨l1, _, _⟩ := arcI_lt _ _ _ g1
    have c1 := cap_bd hn hc l1
    rw [if_pos g1] at hk
    simp (maxSteps := 300000) (disch := omega) only [gs, gs2, gs3, ↓reduceIte, Nat.reduceEqDiff, Nat.mul_one, Nat.add_zero, Nat.zero_add, Nat.zero_mul, Int.toNat_natCast, Int.reduceToNat, Nat.reduceMul, Nat.reduceAdd, decide_true, decide_false, Bool.not_true, Bool.not_false, true_and, and_true, List.map_cons, List.map_nil, List.nil_append, List.cons_append, List.append_nil, Option.map_some, Option.bind_some, List.getElem?_cons_zero, List.getElem?_cons_succ, Bool.false_eq_true, not_true_eq_false, not_false_eq_true, List.contains_cons, List.contains_nil, Nat.reduceBEq, Bool.true_or, Bool.false_or, Bool.or_true, List.set_cons_zero, List.set_cons_succ, List.length_cons, List.length_nil, isLd, Bool.true_and, Bool.false_and, Bool.and_true, Bool.and_false, g1, f0, f1, f2, f3, p2, r]
    refine impl_arcOf_ok (N := N) (a := b) (b := a) hh (by omega) ?_
    simp (maxSteps := 300000) (disch := omega) only [gs, gs2, gs3, ↓reduceIte, Nat.reduceEqDiff, Nat.mul_one, Nat.add_zero, Nat.zero_add, Nat.zero_mul, Int.toNat_natCast, Int.reduceToNat, Nat.reduceMul, Nat.reduceAdd, decide_true, decide_false, Bool.not_true, Bool.not_false, true_and, and_true, List.map_cons, List.map_nil, List.nil_append, List.cons_append, List.append_nil, Option.map_some, Option.bind_some, List.getElem?_cons_zero, List.getElem?_cons_succ, Bool.false_eq_true, not_true_eq_false, not_false_eq_true, List.contains_cons, List.contains_nil, Nat.reduceBEq, Bool.true_or, Bool.false_or, Bool.or_true, List.set_cons_zero, List.set_cons_succ, List.length_cons, List.length_nil, isLd, Bool.true_and, Bool.false_and, Bool.and_true, Bool.and_false, f0, f1, f2, f3]
    by_cases g2 : 0 ≤ arcI N.arcs b a
    · obtain ⟨l2, _, _⟩ := arcI_lt _ _ _ g2
      have c2 := cap_bd hn hc l2
      rw [if_pos g2] at hk
      simp (maxSteps := 300000) (disch := omega) only [gs, gs2, gs3, ↓reduceIte, Nat.reduceEqDiff, Nat.mul_one, Nat.add_zero, Nat.zero_add, Nat.zero_mul, Int.toNat_natCast, Int.reduceToNat, Nat.reduceMul, Nat.reduceAdd, decide_true, decide_false, Bool.not_true, Bool.not_false, true_and, and_true, List.map_cons, List.map_nil, List.nil_append, List.cons_append, List.append_nil, Option.map_some, Option.bind_some, List.getElem?_cons_zero, List.getElem?_cons_succ, Bool.false_eq_true, not_true_eq_false, not_false_eq_true, List.contains_cons, List.contains_nil, Nat.reduceBEq, Bool.true_or, Bool.false_or, Bool.or_true, List.set_cons_zero, List.set_cons_succ, List.length_cons, List.length_nil, isLd, Bool.true_and, Bool.false_and, Bool.and_true, Bool.and_false, g2, r, Int.zero_add]
      exact ⟨G, s1, hk⟩
    · rw [if_neg g2, Int.add_zero] at hk
      simp (maxSteps := 300000) (disch := omega) only [gs, gs2, gs3, ↓reduceIte, Nat.reduceEqDiff, Nat.mul_one, Nat.add_zero, Nat.zero_add, Nat.zero_mul, Int.toNat_natCast, Int.reduceToNat, Nat.reduceMul, Nat.reduceAdd, decide_true, decide_false, Bool.not_true, Bool.not_false, true_and, and_true, List.map_cons, List.map_nil, List.nil_append, List.cons_append, List.append_nil, Option.map_some, Option.bind_some, List.getElem?_cons_zero, List.getElem?_cons_succ, Bool.false_eq_true, not_true_eq_false, not_false_eq_true, List.contains_cons, List.contains_nil, Nat.reduceBEq, Bool.true_or, Bool.false_or, Bool.or_true, List.set_cons_zero, List.set_cons_succ, List.length_cons, List.length_nil, isLd, Bool.true_and, Bool.false_and, Bool.and_true, Bool.and_false, g2, r, Int.zero_add]
      exact ⟨G, s1, hk⟩
  · rw [if_neg g1] at hk
    simp (maxSteps := 300000) (disch := omega) only [gs, gs2, gs3, ↓reduceIte, Nat.reduceEqDiff, Nat.mul_one, Nat.add_zero, Nat.zero_add, Nat.zero_mul, Int.toNat_natCast, Int.reduceToNat, Nat.reduceMul, Nat.reduceAdd, decide_true, decide_false, Bool.not_true, Bool.not_false, true_and, and_true, List.map_cons, List.map_nil, List.nil_append, List.cons_append, List.append_nil, Option.map_some, Option.bind_some, List.getElem?_cons_zero, List.getElem?_cons_succ, Bool.false_eq_true, not_true_eq_false, not_false_eq_true, List.contains_cons, List.contains_nil, Nat.reduceBEq, Bool.true_or, Bool.false_or, Bool.or_true, List.set_cons_zero, List.set_cons_succ, List.length_cons, List.length_nil, isLd, Bool.true_and, Bool.false_and, Bool.and_true, Bool.and_false, g1, f0, f1, f2, f3]
    refine impl_arcOf_ok (N := N) (a := b) (b := a) hh (by omega) ?_
    simp (maxSteps := 300000) (disch := omega) only [gs, gs2, gs3, ↓reduceIte, Nat.reduceEqDiff, Nat.mul_one, Nat.add_zero, Nat.zero_add, Nat.zero_mul, Int.toNat_natCast, Int.reduceToNat, Nat.reduceMul, Nat.reduceAdd, decide_true, decide_false, Bool.not_true, Bool.not_false, true_and, and_true, List.map_cons, List.map_nil, List.nil_append, List.cons_append, List.append_nil, Option.map_some, Option.bind_some, List.getElem?_cons_zero, List.getElem?_cons_succ, Bool.false_eq_true, not_true_eq_false, not_false_eq_true, List.contains_cons, List.contains_nil, Nat.reduceBEq, Bool.true_or, Bool.false_or, Bool.or_true, List.set_cons_zero, List.set_cons_succ, List.length_cons, List.length_nil, isLd, Bool.true_and, Bool.false_and, Bool.and_true, Bool.and_false, f0, f1, f2, f3]
    by_cases g2 : 0 ≤ arcI N.arcs b a
    · obtain ⟨l2, _, _⟩ := arcI_lt _ _ _ g2
      have c2 := cap_bd hn hc l2
      rw [if_pos g2] at hk
      simp (maxSteps := 300000) (disch := omega) only [gs, gs2, gs3, ↓reduceIte, Nat.reduceEqDiff, Nat.mul_one, Nat.add_zero, Nat.zero_add, Nat.zero_mul, Int.toNat_natCast, Int.reduceToNat, Nat.reduceMul, Nat.reduceAdd, decide_true, decide_false, Bool.not_true, Bool.not_false, true_and, and_true, List.map_cons, List.map_nil, List.nil_append, List.cons_append, List.append_nil, Option.map_some, Option.bind_some, List.getElem?_cons_zero, List.getElem?_cons_succ, Bool.false_eq_true, not_true_eq_false, not_false_eq_true, List.contains_cons, List.contains_nil, Nat.reduceBEq, Bool.true_or, Bool.false_or, Bool.or_true, List.set_cons_zero, List.set_cons_succ, List.length_cons, List.length_nil, isLd, Bool.true_and, Bool.false_and, Bool.and_true, Bool.and_false, g2, r]
      exact ⟨G, s1, by simpa using hk⟩
    · rw [if_neg g2] at hk
      simp (maxSteps := 300000) (disch := omega) only [gs, gs2, gs3, ↓reduceIte, Nat.reduceEqDiff, Nat.mul_one, Nat.add_zero, Nat.zero_add, Nat.zero_mul, Int.toNat_natCast, Int.reduceToNat, Nat.reduceMul, Nat.reduceAdd, decide_true, decide_false, Bool.not_true, Bool.not_false, true_and, and_true, List.map_cons, List.map_nil, List.nil_append, List.cons_append, List.append_nil, Option.map_some, Option.bind_some, List.getElem?_cons_zero, List.getElem?_cons_succ, Bool.false_eq_true, not_true_eq_false, not_false_eq_true, List.contains_cons, List.contains_nil, Nat.reduceBEq, Bool.true_or, Bool.false_or, Bool.or_true, List.set_cons_zero, List.set_cons_succ, List.length_cons, List.length_nil, isLd, Bool.true_and, Bool.false_and, Bool.and_true, Bool.and_false, g2, r]
      exact ⟨G, s1, by simpa using hk⟩
theorem spec_l19Room_ok {G : GH} {q : Option Addr} {N : Net} {A B : Option Addr} {c d : Nat} {fl : List Int} {a b : Int} (h : NetP G q N A c) (hf : IntS G B d fl) (hn : NetOk N) (hc : Cap N.arcs fl) {K : Value → GH → Prop}
    (hk : K (.int .i64 (rm N.arcs fl a b)) G) : GC Try.prog 238 [.pointer q, .slice B fl.length d, .int .i64 a, .int .i64 b] G K := by
  refine c_spec_l19Room_i (by simp) ?_
  have hq := rd_some h.f0
  have f3 := h.f3
  have hn5 := hn.2.2.2.2.2
  have hlen := hc.1
  rw [← rm_eq hn.2.2.2.2.1.2] at hk
  simp (maxSteps := 300000) (disch := omega) only [gs, gs2, gs3, ↓reduceIte, Nat.reduceEqDiff, Nat.mul_one, Nat.add_zero, Nat.zero_add, Nat.zero_mul, Int.toNat_natCast, Int.reduceToNat, Nat.reduceMul, Nat.reduceAdd, decide_true, decide_false, Bool.not_true, Bool.not_false, true_and, and_true, List.map_cons, List.map_nil, List.nil_append, List.cons_append, List.append_nil, Option.map_some, Option.bind_some, List.getElem?_cons_zero, List.getElem?_cons_succ, Bool.false_eq_true, not_true_eq_false, not_false_eq_true, List.contains_cons, List.contains_nil, Nat.reduceBEq, Bool.true_or, Bool.false_or, Bool.or_true, List.set_cons_zero, List.set_cons_succ, List.length_cons, List.length_nil, isLd, Bool.true_and, Bool.false_and, Bool.and_true, Bool.and_false]
  refine gLoop_intro (fun m T G' => ∃ k : Nat, T 0 = .pointer q ∧ T 1 = .slice B fl.length d ∧ T 2 = .int .i64 a ∧ T 3 = .int .i64 b ∧ T 9 = .int .i64 (rmK N.arcs fl a b k) ∧ T 10 = .int .i64 k ∧ m + k = N.arcs.length ∧ k ≤ N.arcs.length ∧ G' = G)
    N.arcs.length ⟨0, by simp (maxSteps := 300000) (disch := omega) only [gs, gs2, gs3, ↓reduceIte, Nat.reduceEqDiff, Nat.mul_one, Nat.add_zero, Nat.zero_add, Nat.zero_mul, Int.toNat_natCast, Int.reduceToNat, Nat.reduceMul, Nat.reduceAdd, decide_true, decide_false, Bool.not_true, Bool.not_false, true_and, and_true, List.map_cons, List.map_nil, List.nil_append, List.cons_append, List.append_nil, Option.map_some, Option.bind_some, List.getElem?_cons_zero, List.getElem?_cons_succ, Bool.false_eq_true, not_true_eq_false, not_false_eq_true, List.contains_cons, List.contains_nil, Nat.reduceBEq, Bool.true_or, Bool.false_or, Bool.or_true, List.set_cons_zero, List.set_cons_succ, List.length_cons, List.length_nil, isLd, Bool.true_and, Bool.false_and, Bool.and_true, Bool.and_false], by simp (maxSteps := 300000) (disch := omega) only [gs, gs2, gs3, ↓reduceIte, Nat.reduceEqDiff, Nat.mul_one, Nat.add_zero, Nat.zero_add, Nat.zero_mul, Int.toNat_natCast, Int.reduceToNat, Nat.reduceMul, Nat.reduceAdd, decide_true, decide_false, Bool.not_true, Bool.not_false, true_and, and_true, List.map_cons, List.map_nil, List.nil_append, List.cons_append, List.append_nil, Option.map_some, Option.bind_some, List.getElem?_cons_zero, List.getElem?_cons_succ, Bool.false_eq_true, not_true_eq_false, not_false_eq_true, List.contains_cons, List.contains_nil, Nat.reduceBEq, Bool.true_or, Bool.false_or, Bool.or_true, List.set_cons_zero, List.set_cons_succ, List.length_cons, List.length_nil, isLd, Bool.true_and, Bool.false_and, Bool.and_true, Bool.and_false], by simp (maxSteps := 300000) (disch := omega) only [gs, gs2, gs3, ↓reduceIte, Nat.reduceEqDiff, Nat.mul_one, Nat.add_zero, Nat.zero_add, Nat.zero_mul, Int.toNat_natCast, Int.reduceToNat, Nat.reduceMul, Nat.reduceAdd, decide_true, decide_false, Bool.not_true, Bool.not_false, true_and, and_true, List.map_cons, List.map_nil, List.nil_append, List.cons_append, List.append_nil, Option.map_some, Option.bind_some, List.getElem?_cons_zero, List.getElem?_cons_succ, Bool.false_eq_true, not_true_eq_false, not_false_eq_true, List.contains_cons, List.contains_nil, Nat.reduceBEq, Bool.true_or, Bool.false_or, Bool.or_true, List.set_cons_zero, List.set_cons_succ, List.length_cons, List.length_nil, isLd, Bool.true_and, Bool.false_and, Bool.and_true, Bool.and_false], by simp (maxSteps := 300000) (disch := omega) only [gs, gs2, gs3, ↓reduceIte, Nat.reduceEqDiff, Nat.mul_one, Nat.add_zero, Nat.zero_add, Nat.zero_mul, Int.toNat_natCast, Int.reduceToNat, Nat.reduceMul, Nat.reduceAdd, decide_true, decide_false, Bool.not_true, Bool.not_false, true_and, and_true, List.map_cons, List.map_nil, List.nil_append, List.cons_append, List.append_nil, Option.map_some, Option.bind_some, List.getElem?_cons_zero, List.getElem?_cons_succ, Bool.false_eq_true, not_true_eq_false, not_false_eq_true, List.contains_cons, List.contains_nil, Nat.reduceBEq, Bool.true_or, Bool.false_or, Bool.or_true, List.set_cons_zero, List.set_cons_succ, List.length_cons, List.length_nil, isLd, Bool.true_and, Bool.false_and, Bool.and_true, Bool.and_false], by simp (maxSteps := 300000) (disch := omega) only [gs, gs2, gs3, ↓reduceIte, Nat.reduceEqDiff, Nat.mul_one, Nat.add_zero, Nat.zero_add, Nat.zero_mul, Int.toNat_natCast, Int.reduceToNat, Nat.reduceMul, Nat.reduceAdd, decide_true, decide_false, Bool.not_true, Bool.not_false, true_and, and_true, List.map_cons, List.map_nil, List.nil_append, List.cons_append, List.append_nil, Option.map_some, Option.bind_some, List.getElem?_cons_zero, List.getElem?_cons_succ, Bool.false_eq_true, not_true_eq_false, not_false_eq_true, List.contains_cons, List.contains_nil, Nat.reduceBEq, Bool.true_or, Bool.false_or, Bool.or_true, List.set_cons_zero, List.set_cons_succ, List.length_cons, List.length_nil, isLd, Bool.true_and, Bool.false_and, Bool.and_true, Bool.and_false] <;> rfl, by simp (maxSteps := 300000) (disch := omega) only [gs, gs2, gs3, ↓reduceIte, Nat.reduceEqDiff, Nat.mul_one, Nat.add_zero, Nat.zero_add, Nat.zero_mul, Int.toNat_natCast, Int.reduceToNat, Nat.reduceMul, Nat.reduceAdd, decide_true, decide_false, Bool.not_true, Bool.not_false, true_and, and_true, List.map_cons, List.map_nil, List.nil_append, List.cons_append, List.append_nil, Option.map_some, Option.bind_some, List.getElem?_cons_zero, List.getElem?_cons_succ, Bool.false_eq_true, not_true_eq_false, not_false_eq_true, List.contains_cons, List.contains_nil, Nat.reduceBEq, Bool.true_or, Bool.false_or, Bool.or_true, List.set_cons_zero, List.set_cons_succ, List.length_cons, List.length_nil, isLd, Bool.true_and, Bool.false_and, Bool.and_true, Bool.and_false] <;> rfl, by omega, by omega, rfl⟩ ?_
  rintro m T G' ⟨k, e0, e1, e2, e3, e9, e10, hm, hkl, rfl⟩
  have hsn := h.arcs.sn
  have hsf := hf.sn
  have p0 := h.arcs.r0
  have p1 := h.arcs.r1
  have p2 := h.arcs.r2
  have r := hf.rd
  simp (maxSteps := 300000) (disch := omega) only [gs, gs2, gs3, ↓reduceIte, Nat.reduceEqDiff, Nat.mul_one, Nat.add_zero, Nat.zero_add, Nat.zero_mul, Int.toNat_natCast, Int.reduceToNat, Nat.reduceMul, Nat.reduceAdd, decide_true, decide_false, Bool.not_true, Bool.not_false, true_and, and_true, List.map_cons, List.map_nil, List.nil_append, List.cons_append, List.append_nil, Option.map_some, Option.bind_some, List.getElem?_cons_zero, List.getElem?_cons_succ, Bool.false_eq_true, not_true_eq_false, not_false_eq_true, List.contains_cons, List.contains_nil, Nat.reduceBEq, Bool.true_or, Bool.false_or, Bool.or_true, List.set_cons_zero, List.set_cons_succ, List.length_cons, List.length_nil, isLd, Bool.true_and, Bool.false_and, Bool.and_true, Bool.and_false, e0, e1, e2, e3, e9, e10, f3]
  by_cases hkk : (k : Int) < N.arcs.length
  · have b1 := rmK_bd hn hc a b k hkl
    have b2 := cap_bd hn hc (k := k) (by omega)
    have hne := (hn.2.2.2.2.1.1 k (by omega)).2.2.1
    simp (maxSteps := 300000) (disch := omega) only [gs, gs2, gs3, ↓reduceIte, Nat.reduceEqDiff, Nat.mul_one, Nat.add_zero, Nat.zero_add, Nat.zero_mul, Int.toNat_natCast, Int.reduceToNat, Nat.reduceMul, Nat.reduceAdd, decide_true, decide_false, Bool.not_true, Bool.not_false, true_and, and_true, List.map_cons, List.map_nil, List.nil_append, List.cons_append, List.append_nil, Option.map_some, Option.bind_some, List.getElem?_cons_zero, List.getElem?_cons_succ, Bool.false_eq_true, not_true_eq_false, not_false_eq_true, List.contains_cons, List.contains_nil, Nat.reduceBEq, Bool.true_or, Bool.false_or, Bool.or_true, List.set_cons_zero, List.set_cons_succ, List.length_cons, List.length_nil, isLd, Bool.true_and, Bool.false_and, Bool.and_true, Bool.and_false, e0, e1, e2, e3, e9, e10, f3, hkk, p0, p1, p2]
    have step : rmK N.arcs fl a b (k + 1) = rmK N.arcs fl a b k + (if (N.arcs.getD k z3).1 = a ∧ (N.arcs.getD k z3).2.1 = b then (N.arcs.getD k z3).2.2 - fl.getD k 0 else 0) + (if (N.arcs.getD k z3).1 = b ∧ (N.arcs.getD k z3).2.1 = a then fl.getD k 0 else 0) := rfl
    by_cases g1 : (N.arcs.getD k z3).1 = a
    · by_cases g2 : (N.arcs.getD k z3).2.1 = b
      · rw [if_pos ⟨g1, g2⟩] at step
        have g3 : ¬ ((N.arcs.getD k z3).1 = b ∧ (N.arcs.getD k z3).2.1 = a) ∨ ((N.arcs.getD k z3).1 = b ∧ (N.arcs.getD k z3).2.1 = a) := by omega
        rw [if_neg (by omega), Int.add_zero] at step
        simp (maxSteps := 300000) (disch := omega) only [gs, gs2, gs3, ↓reduceIte, Nat.reduceEqDiff, Nat.mul_one, Nat.add_zero, Nat.zero_add, Nat.zero_mul, Int.toNat_natCast, Int.reduceToNat, Nat.reduceMul, Nat.reduceAdd, decide_true, decide_false, Bool.not_true, Bool.not_false, true_and, and_true, List.map_cons, List.map_nil, List.nil_append, List.cons_append, List.append_nil, Option.map_some, Option.bind_some, List.getElem?_cons_zero, List.getElem?_cons_succ, Bool.false_eq_true, not_true_eq_false, not_false_eq_true, List.contains_cons, List.contains_nil, Nat.reduceBEq, Bool.true_or, Bool.false_or, Bool.or_true, List.set_cons_zero, List.set_cons_succ, List.length_cons, List.length_nil, isLd, Bool.true_and, Bool.false_and, Bool.and_true, Bool.and_false, eq_true g1, e0, e1, e2, e3, e9, e10, f3, hkk, p0, p1, p2, r]
        simp (maxSteps := 300000) (disch := omega) only [gs, gs2, gs3, ↓reduceIte, Nat.reduceEqDiff, Nat.mul_one, Nat.add_zero, Nat.zero_add, Nat.zero_mul, Int.toNat_natCast, Int.reduceToNat, Nat.reduceMul, Nat.reduceAdd, decide_true, decide_false, Bool.not_true, Bool.not_false, true_and, and_true, List.map_cons, List.map_nil, List.nil_append, List.cons_append, List.append_nil, Option.map_some, Option.bind_some, List.getElem?_cons_zero, List.getElem?_cons_succ, Bool.false_eq_true, not_true_eq_false, not_false_eq_true, List.contains_cons, List.contains_nil, Nat.reduceBEq, Bool.true_or, Bool.false_or, Bool.or_true, List.set_cons_zero, List.set_cons_succ, List.length_cons, List.length_nil, isLd, Bool.true_and, Bool.false_and, Bool.and_true, Bool.and_false, eq_true g2, e0, e1, e2, e3, e9, e10, f3, hkk, p0, p1, p2, r]
        by_cases g4 : (N.arcs.getD k z3).1 = b
        · exact absurd (g4.trans g2.symm) hne
        · rw [decide_eq_false g4]
          simp (maxSteps := 300000) (disch := omega) only [gs, gs2, gs3, ↓reduceIte, Nat.reduceEqDiff, Nat.mul_one, Nat.add_zero, Nat.zero_add, Nat.zero_mul, Int.toNat_natCast, Int.reduceToNat, Nat.reduceMul, Nat.reduceAdd, decide_true, decide_false, Bool.not_true, Bool.not_false, true_and, and_true, List.map_cons, List.map_nil, List.nil_append, List.cons_append, List.append_nil, Option.map_some, Option.bind_some, List.getElem?_cons_zero, List.getElem?_cons_succ, Bool.false_eq_true, not_true_eq_false, not_false_eq_true, List.contains_cons, List.contains_nil, Nat.reduceBEq, Bool.true_or, Bool.false_or, Bool.or_true, List.set_cons_zero, List.set_cons_succ, List.length_cons, List.length_nil, isLd, Bool.true_and, Bool.false_and, Bool.and_true, Bool.and_false, e0, e1, e2, e3, e9, e10, f3, hkk, p0, p1, p2, r]
          exact ⟨m - 1, by omega, _, Sub.refl _, k + 1, by rw [step], rfl, by omega, by omega, rfl⟩
      · rw [if_neg (fun x => g2 x.2), Int.add_zero] at step
        simp (maxSteps := 300000) (disch := omega) only [gs, gs2, gs3, ↓reduceIte, Nat.reduceEqDiff, Nat.mul_one, Nat.add_zero, Nat.zero_add, Nat.zero_mul, Int.toNat_natCast, Int.reduceToNat, Nat.reduceMul, Nat.reduceAdd, decide_true, decide_false, Bool.not_true, Bool.not_false, true_and, and_true, List.map_cons, List.map_nil, List.nil_append, List.cons_append, List.append_nil, Option.map_some, Option.bind_some, List.getElem?_cons_zero, List.getElem?_cons_succ, Bool.false_eq_true, not_true_eq_false, not_false_eq_true, List.contains_cons, List.contains_nil, Nat.reduceBEq, Bool.true_or, Bool.false_or, Bool.or_true, List.set_cons_zero, List.set_cons_succ, List.length_cons, List.length_nil, isLd, Bool.true_and, Bool.false_and, Bool.and_true, Bool.and_false, eq_true g1, e0, e1, e2, e3, e9, e10, f3, hkk, p0, p1, p2, r]
        rw [decide_eq_false g2]
        simp (maxSteps := 300000) (disch := omega) only [gs, gs2, gs3, ↓reduceIte, Nat.reduceEqDiff, Nat.mul_one, Nat.add_zero, Nat.zero_add, Nat.zero_mul, Int.toNat_natCast, Int.reduceToNat, Nat.reduceMul, Nat.reduceAdd, decide_true, decide_false, Bool.not_true, Bool.not_false, true_and, and_true, List.map_cons, List.map_nil, List.nil_append, List.cons_append, List.append_nil, Option.map_some, Option.bind_some, List.getElem?_cons_zero, List.getElem?_cons_succ, Bool.false_eq_true, not_true_eq_false, not_false_eq_true, List.contains_cons, List.contains_nil, Nat.reduceBEq, Bool.true_or, Bool.false_or, Bool.or_true, List.set_cons_zero, List.set_cons_succ, List.length_cons, List.length_nil, isLd, Bool.true_and, Bool.false_and, Bool.and_true, Bool.and_false, e0, e1, e2, e3, e9, e10, f3, hkk, p0, p1, p2, r]
        by_cases g4 : (N.arcs.getD k z3).1 = b
        · simp (maxSteps := 300000) (disch := omega) only [gs, gs2, gs3, ↓reduceIte, Nat.reduceEqDiff, Nat.mul_one, Nat.add_zero, Nat.zero_add, Nat.zero_mul, Int.toNat_natCast, Int.reduceToNat, Nat.reduceMul, Nat.reduceAdd, decide_true, decide_false, Bool.not_true, Bool.not_false, true_and, and_true, List.map_cons, List.map_nil, List.nil_append, List.cons_append, List.append_nil, Option.map_some, Option.bind_some, List.getElem?_cons_zero, List.getElem?_cons_succ, Bool.false_eq_true, not_true_eq_false, not_false_eq_true, List.contains_cons, List.contains_nil, Nat.reduceBEq, Bool.true_or, Bool.false_or, Bool.or_true, List.set_cons_zero, List.set_cons_succ, List.length_cons, List.length_nil, isLd, Bool.true_and, Bool.false_and, Bool.and_true, Bool.and_false, eq_true g4, e0, e1, e2, e3, e9, e10, f3, hkk, p0, p1, p2, r]
          by_cases g5 : (N.arcs.getD k z3).2.1 = a
          · exact absurd (g1.trans g5.symm) hne
          · rw [decide_eq_false g5]
            rw [if_neg (fun x => g5 x.2), Int.add_zero] at step
            simp (maxSteps := 300000) (disch := omega) only [gs, gs2, gs3, ↓reduceIte, Nat.reduceEqDiff, Nat.mul_one, Nat.add_zero, Nat.zero_add, Nat.zero_mul, Int.toNat_natCast, Int.reduceToNat, Nat.reduceMul, Nat.reduceAdd, decide_true, decide_false, Bool.not_true, Bool.not_false, true_and, and_true, List.map_cons, List.map_nil, List.nil_append, List.cons_append, List.append_nil, Option.map_some, Option.bind_some, List.getElem?_cons_zero, List.getElem?_cons_succ, Bool.false_eq_true, not_true_eq_false, not_false_eq_true, List.contains_cons, List.contains_nil, Nat.reduceBEq, Bool.true_or, Bool.false_or, Bool.or_true, List.set_cons_zero, List.set_cons_succ, List.length_cons, List.length_nil, isLd, Bool.true_and, Bool.false_and, Bool.and_true, Bool.and_false, e0, e1, e2, e3, e9, e10, f3, hkk, p0, p1, p2, r]
            exact ⟨m - 1, by omega, _, Sub.refl _, k + 1, by rw [step], rfl, by omega, by omega, rfl⟩
        · rw [decide_eq_false g4]
          rw [if_neg (fun x => g4 x.1), Int.add_zero] at step
          simp (maxSteps := 300000) (disch := omega) only [gs, gs2, gs3, ↓reduceIte, Nat.reduceEqDiff, Nat.mul_one, Nat.add_zero, Nat.zero_add, Nat.zero_mul, Int.toNat_natCast, Int.reduceToNat, Nat.reduceMul, Nat.reduceAdd, decide_true, decide_false, Bool.not_true, Bool.not_false, true_and, and_true, List.map_cons, List.map_nil, List.nil_append, List.cons_append, List.append_nil, Option.map_some, Option.bind_some, List.getElem?_cons_zero, List.getElem?_cons_succ, Bool.false_eq_true, not_true_eq_false, not_false_eq_true, List.contains_cons, List.contains_nil, Nat.reduceBEq, Bool.true_or, Bool.false_or, Bool.or_true, List.set_cons_zero, List.set_cons_succ, List.length_cons, List.length_nil, isLd, Bool.true_and, Bool.false_and, Bool.and_true, Bool.and_false, e0, e1, e2, e3, e9, e10, f3, hkk, p0, p1, p2, r]
          exact ⟨m - 1, by omega, _, Sub.refl _, k + 1, by rw [step], rfl, by omega, by omega, rfl⟩
    · rw [decide_eq_false g1]
      rw [if_neg (fun x => g1 x.1), Int.add_zero] at step
      simp (maxSteps := 300000) (disch := omega) only [gs, gs2, gs3, ↓reduceIte, Nat.reduceEqDiff, Nat.mul_one, Nat.add_zero, Nat.zero_add, Nat.zero_mul, Int.toNat_natCast, Int.reduceToNat, Nat.reduceMul, Nat.reduceAdd, decide_true, decide_false, Bool.not_true, Bool.not_false, true_and, and_true, List.map_cons, List.map_nil, List.nil_append, List.cons_append, List.append_nil, Option.map_some, Option.bind_some, List.getElem?_cons_zero, List.getElem?_cons_succ, Bool.false_eq_true, not_true_eq_false, not_false_eq_true, List.contains_cons, List.contains_nil, Nat.reduceBEq, Bool.true_or, Bool.false_or, Bool.or_true, List.set_cons_zero, List.set_cons_succ, List.length_cons, List.length_nil, isLd, Bool.true_and, Bool.false_and, Bool.and_true, Bool.and_false, e0, e1, e2, e3, e9, e10, f3, hkk, p0, p1, p2, r]
      by_cases g4 : (N.arcs.getD k z3).1 = b
      · simp (maxSteps := 300000) (disch := omega) only [gs, gs2, gs3, ↓reduceIte, Nat.reduceEqDiff, Nat.mul_one, Nat.add_zero, Nat.zero_add, Nat.zero_mul, Int.toNat_natCast, Int.reduceToNat, Nat.reduceMul, Nat.reduceAdd, decide_true, decide_false, Bool.not_true, Bool.not_false, true_and, and_true, List.map_cons, List.map_nil, List.nil_append, List.cons_append, List.append_nil, Option.map_some, Option.bind_some, List.getElem?_cons_zero, List.getElem?_cons_succ, Bool.false_eq_true, not_true_eq_false, not_false_eq_true, List.contains_cons, List.contains_nil, Nat.reduceBEq, Bool.true_or, Bool.false_or, Bool.or_true, List.set_cons_zero, List.set_cons_succ, List.length_cons, List.length_nil, isLd, Bool.true_and, Bool.false_and, Bool.and_true, Bool.and_false, eq_true g4, e0, e1, e2, e3, e9, e10, f3, hkk, p0, p1, p2, r]
        by_cases g5 : (N.arcs.getD k z3).2.1 = a
        · rw [if_pos ⟨g4, g5⟩] at step
          simp (maxSteps := 300000) (disch := omega) only [gs, gs2, gs3, ↓reduceIte, Nat.reduceEqDiff, Nat.mul_one, Nat.add_zero, Nat.zero_add, Nat.zero_mul, Int.toNat_natCast, Int.reduceToNat, Nat.reduceMul, Nat.reduceAdd, decide_true, decide_false, Bool.not_true, Bool.not_false, true_and, and_true, List.map_cons, List.map_nil, List.nil_append, List.cons_append, List.append_nil, Option.map_some, Option.bind_some, List.getElem?_cons_zero, List.getElem?_cons_succ, Bool.false_eq_true, not_true_eq_false, not_false_eq_true, List.contains_cons, List.contains_nil, Nat.reduceBEq, Bool.true_or, Bool.false_or, Bool.or_true, List.set_cons_zero, List.set_cons_succ, List.length_cons, List.length_nil, isLd, Bool.true_and, Bool.false_and, Bool.and_true, Bool.and_false, eq_true g5, e0, e1, e2, e3, e9, e10, f3, hkk, p0, p1, p2, r]
          exact ⟨m - 1, by omega, _, Sub.refl _, k + 1, by rw [step], rfl, by omega, by omega, rfl⟩
        · rw [decide_eq_false g5]
          rw [if_neg (fun x => g5 x.2), Int.add_zero] at step
          simp (maxSteps := 300000) (disch := omega) only [gs, gs2, gs3, ↓reduceIte, Nat.reduceEqDiff, Nat.mul_one, Nat.add_zero, Nat.zero_add, Nat.zero_mul, Int.toNat_natCast, Int.reduceToNat, Nat.reduceMul, Nat.reduceAdd, decide_true, decide_false, Bool.not_true, Bool.not_false, true_and, and_true, List.map_cons, List.map_nil, List.nil_append, List.cons_append, List.append_nil, Option.map_some, Option.bind_some, List.getElem?_cons_zero, List.getElem?_cons_succ, Bool.false_eq_true, not_true_eq_false, not_false_eq_true, List.contains_cons, List.contains_nil, Nat.reduceBEq, Bool.true_or, Bool.false_or, Bool.or_true, List.set_cons_zero, List.set_cons_succ, List.length_cons, List.length_nil, isLd, Bool.true_and, Bool.false_and, Bool.and_true, Bool.and_false, e0, e1, e2, e3, e9, e10, f3, hkk, p0, p1, p2, r]
          exact ⟨m - 1, by omega, _, Sub.refl _, k + 1, by rw [step], rfl, by omega, by omega, rfl⟩
      · rw [decide_eq_false g4]
        rw [if_neg (fun x => g4 x.1), Int.add_zero] at step
        simp (maxSteps := 300000) (disch := omega) only [gs, gs2, gs3, ↓reduceIte, Nat.reduceEqDiff, Nat.mul_one, Nat.add_zero, Nat.zero_add, Nat.zero_mul, Int.toNat_natCast, Int.reduceToNat, Nat.reduceMul, Nat.reduceAdd, decide_true, decide_false, Bool.not_true, Bool.not_false, true_and, and_true, List.map_cons, List.map_nil, List.nil_append, List.cons_append, List.append_nil, Option.map_some, Option.bind_some, List.getElem?_cons_zero, List.getElem?_cons_succ, Bool.false_eq_true, not_true_eq_false, not_false_eq_true, List.contains_cons, List.contains_nil, Nat.reduceBEq, Bool.true_or, Bool.false_or, Bool.or_true, List.set_cons_zero, List.set_cons_succ, List.length_cons, List.length_nil, isLd, Bool.true_and, Bool.false_and, Bool.and_true, Bool.and_false, e0, e1, e2, e3, e9, e10, f3, hkk, p0, p1, p2, r]
        exact ⟨m - 1, by omega, _, Sub.refl _, k + 1, by rw [step], rfl, by omega, by omega, rfl⟩
  · simp (maxSteps := 300000) (disch := omega) only [gs, gs2, gs3, ↓reduceIte, Nat.reduceEqDiff, Nat.mul_one, Nat.add_zero, Nat.zero_add, Nat.zero_mul, Int.toNat_natCast, Int.reduceToNat, Nat.reduceMul, Nat.reduceAdd, decide_true, decide_false, Bool.not_true, Bool.not_false, true_and, and_true, List.map_cons, List.map_nil, List.nil_append, List.cons_append, List.append_nil, Option.map_some, Option.bind_some, List.getElem?_cons_zero, List.getElem?_cons_succ, Bool.false_eq_true, not_true_eq_false, not_false_eq_true, List.contains_cons, List.contains_nil, Nat.reduceBEq, Bool.true_or, Bool.false_or, Bool.or_true, List.set_cons_zero, List.set_cons_succ, List.length_cons, List.length_nil, isLd, Bool.true_and, Bool.false_and, Bool.and_true, Bool.and_false, e0, e1, e2, e3, e9, e10, hkk, f3]
    obtain rfl : k = N.arcs.length := by omega
    exact hk
theorem map_set (fl : List Int) (k : Nat) (x : Int) : (fl.map I64).set k (.int .i64 x) = (fl.set k x).map I64 := by
  rw [List.map_set]; rfl
theorem map_get (fl : List Int) (k : Nat) (h : k < fl.length) : (fl.map I64)[k]? = some (.int .i64 (fl.getD k 0)) := by simp [List.getD, h, I64]
/-- the flow after the first loop, when it has looked at k arcs, and what is left to send. -/
def backF (es : List T3) (fl : List Int) (u v a : Int) (k : Nat) : List Int :=
  if 0 ≤ arcI es v u ∧ arcI es v u < k then fl.set (arcI es v u).toNat (fl.getD (arcI es v u).toNat 0 - (if fl.getD (arcI es v u).toNat 0 < a then fl.getD (arcI es v u).toNat 0 else a)) else fl
def backM (es : List T3) (fl : List Int) (u v a : Int) (k : Nat) : Int :=
  if 0 ≤ arcI es v u ∧ arcI es v u < k then a - (if fl.getD (arcI es v u).toNat 0 < a then fl.getD (arcI es v u).toNat 0 else a) else a
theorem arcI_at {es : List T3} (hs : Srt es) {k : Nat} (hk : k < es.length) {a b : Int} (h1 : (es.getD k z3).1 = a) (h2 : (es.getD k z3).2.1 = b) : arcI es a b = k := by
  rcases arcI_cases es a b with ⟨j, hj, g1, g2, _, e⟩ | ⟨hn, _⟩
  · rw [e, arc_once hs hj hk (by omega) (by omega)]
  · exact absurd ⟨h1, h2⟩ (hn k hk)
theorem arcI_not {es : List T3} {k : Nat} {a b : Int} (h : ¬ ((es.getD k z3).1 = a ∧ (es.getD k z3).2.1 = b)) : ¬ (0 ≤ arcI es a b ∧ arcI es a b = k) := fun ⟨h0, h1⟩ => by
  have := arcI_lt es a b h0
  rw [show (arcI es a b).toNat = k by omega] at this
  exact h this.2
theorem back_skip {es : List T3} {fl : List Int} {u v a : Int} {k : Nat} (h : ¬ ((es.getD k z3).1 = v ∧ (es.getD k z3).2.1 = u)) : backF es fl u v a (k + 1) = backF es fl u v a k ∧ backM es fl u v a (k + 1) = backM es fl u v a k := by
  have := arcI_not h
  unfold backF backM
  by_cases h1 : 0 ≤ arcI es v u ∧ arcI es v u < k
  · have h2 : 0 ≤ arcI es v u ∧ arcI es v u < ((k + 1 : Nat) : Int) := by omega
    simp only [if_pos h1, if_pos h2]; exact ⟨trivial, trivial⟩
  · have h2 : ¬ (0 ≤ arcI es v u ∧ arcI es v u < ((k + 1 : Nat) : Int)) := by omega
    simp only [if_neg h1, if_neg h2]; exact ⟨trivial, trivial⟩
/-- the flow after the second loop, when it has looked at k arcs. -/
def onF (es : List T3) (fl : List Int) (u v a : Int) (k : Nat) : List Int :=
  if 0 ≤ arcI es u v ∧ arcI es u v < k then fl.set (arcI es u v).toNat (fl.getD (arcI es u v).toNat 0 + a) else fl
theorem on_skip {es : List T3} {fl : List Int} {u v a : Int} {k : Nat} (h : ¬ ((es.getD k z3).1 = u ∧ (es.getD k z3).2.1 = v)) : onF es fl u v a (k + 1) = onF es fl u v a k := by
  have := arcI_not h
  unfold onF
  by_cases h1 : 0 ≤ arcI es u v ∧ arcI es u v < k
  · have h2 : 0 ≤ arcI es u v ∧ arcI es u v < ((k + 1 : Nat) : Int) := by omega
    simp only [if_pos h1, if_pos h2]
  · have h2 : ¬ (0 ≤ arcI es u v ∧ arcI es u v < ((k + 1 : Nat) : Int)) := by omega
    simp only [if_neg h1, if_neg h2]
theorem push_eq (es : List T3) (fl : List Int) (u v a : Int) : push es fl u v a = onF es (backF es fl u v a es.length) u v (backM es fl u v a es.length) es.length := by
  unfold push onF backF backM
  by_cases h1 : 0 ≤ arcI es v u
  · have l1 := (arcI_lt es v u h1).1
    by_cases h2 : 0 ≤ arcI es u v
    · have l2 := (arcI_lt es u v h2).1
      simp only [if_pos h1, if_pos h2, if_pos (show 0 ≤ arcI es v u ∧ arcI es v u < es.length by omega), if_pos (show 0 ≤ arcI es u v ∧ arcI es u v < es.length by omega)]
    · simp only [if_pos h1, if_neg h2, if_pos (show 0 ≤ arcI es v u ∧ arcI es v u < es.length by omega), if_neg (show ¬ (0 ≤ arcI es u v ∧ arcI es u v < es.length) by omega)]
  · by_cases h2 : 0 ≤ arcI es u v
    · have l2 := (arcI_lt es u v h2).1
      simp only [if_neg h1, if_pos h2, if_neg (show ¬ (0 ≤ arcI es v u ∧ arcI es v u < es.length) by omega), if_pos (show 0 ≤ arcI es u v ∧ arcI es u v < es.length by omega)]
    · simp only [if_neg h1, if_neg h2, if_neg (show ¬ (0 ≤ arcI es v u ∧ arcI es v u < es.length) by omega), if_neg (show ¬ (0 ≤ arcI es u v ∧ arcI es u v < es.length) by omega)]

end Go.Proofs.Ytmlkgpoakkgjbaa.Gh
