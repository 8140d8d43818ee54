/- What the functions that the law ResistanceOf reaches return, and the law; it stands under no condition. -/
import Derived.Test.YtmlkgpoakkgjbaaYResistanceOfd
namespace Go.Proofs.Ytmlkgpoakkgjbaa.Gh
open Go Go.RowKit Go.Proofs
set_option linter.unusedVariables false
set_option linter.unusedSimpArgs false
set_option maxHeartbeats 4000000

theorem spec_l16Determinant_ok {G : GH} {Br : Option Addr} {cb n : Nat} {f : Int → Int → Int} {p : Int} (h : RowsS G Br n n f) (hn : n < 2 ^ 10) (hp : 2 < p ∧ p ≤ 2 ^ 30) (hI : HasInv p) {K : Value → GH → Prop}
    (hk : K (.int .i64 (dt n f % p)) G) : GC Try.prog 233 [.slice Br n cb, .int .i64 p] G K := by
  refine GC_drop (c_spec_l16Determinant_i (by simp) ?_)
  simp (maxSteps := 300000) (disch := omega) only [gs, gs2, gs3, ↓reduceIte, Nat.reduceEqDiff, Nat.mul_one, Nat.add_zero, Nat.zero_add, Nat.zero_mul, Int.toNat_natCast, Int.reduceToNat, Nat.reduceMul, Nat.reduceAdd, decide_true, decide_false, Bool.not_true, Bool.not_false, true_and, and_true, List.map_cons, List.map_nil, List.nil_append, List.cons_append, List.append_nil, Option.map_some, Option.bind_some, List.getElem?_cons_zero, List.getElem?_cons_succ, Bool.false_eq_true, not_true_eq_false, not_false_eq_true, List.contains_cons, List.contains_nil, Nat.reduceBEq, Bool.true_or, Bool.false_or, Bool.or_true, List.set_cons_zero, List.set_cons_succ, List.length_cons, List.length_nil, isLd, Bool.true_and, Bool.false_and, Bool.and_true, Bool.and_false, gBs]
  refine ⟨by intro v hv; simp at hv, fun b20 hb20 => ?_⟩
  have hB0 : Bl2 G (put G b20 ⟨List.flatMap (fun v : Value => v.cells.toList) [], true⟩) (some ⟨b20, 0, none⟩) 0 0 n (fun a b => f a b % p) := Bl2.start (.inr ⟨b20, [], rfl, put_same _ _ _, rfl, rfl, Nat.le_refl _⟩) (Sub.put hb20 _) (fun a ha => by cases ha; exact hb20)
  refine gLoop_intro (fun m T G' => ∃ (i : Nat) (B6 : Option Addr) (c6 : Nat), T 0 = .slice Br n cb ∧ T 1 = .int .i64 p ∧ T 5 = .int .i64 n ∧ T 6 = .slice B6 i c6 ∧ T 7 = .int .i64 i ∧ m + i = n ∧ i ≤ n ∧ Bl2 G G' B6 c6 i n (fun a b => f a b % p))
    n ⟨0, _, _, by simp (maxSteps := 300000) (disch := omega) only [gs, gs2, gs3, ↓reduceIte, Nat.reduceEqDiff, Nat.mul_one, Nat.add_zero, Nat.zero_add, Nat.zero_mul, Int.toNat_natCast, Int.reduceToNat, Nat.reduceMul, Nat.reduceAdd, decide_true, decide_false, Bool.not_true, Bool.not_false, true_and, and_true, List.map_cons, List.map_nil, List.nil_append, List.cons_append, List.append_nil, Option.map_some, Option.bind_some, List.getElem?_cons_zero, List.getElem?_cons_succ, Bool.false_eq_true, not_true_eq_false, not_false_eq_true, List.contains_cons, List.contains_nil, Nat.reduceBEq, Bool.true_or, Bool.false_or, Bool.or_true, List.set_cons_zero, List.set_cons_succ, List.length_cons, List.length_nil, isLd, Bool.true_and, Bool.false_and, Bool.and_true, Bool.and_false], by simp (maxSteps := 300000) (disch := omega) only [gs, gs2, gs3, ↓reduceIte, Nat.reduceEqDiff, Nat.mul_one, Nat.add_zero, Nat.zero_add, Nat.zero_mul, Int.toNat_natCast, Int.reduceToNat, Nat.reduceMul, Nat.reduceAdd, decide_true, decide_false, Bool.not_true, Bool.not_false, true_and, and_true, List.map_cons, List.map_nil, List.nil_append, List.cons_append, List.append_nil, Option.map_some, Option.bind_some, List.getElem?_cons_zero, List.getElem?_cons_succ, Bool.false_eq_true, not_true_eq_false, not_false_eq_true, List.contains_cons, List.contains_nil, Nat.reduceBEq, Bool.true_or, Bool.false_or, Bool.or_true, List.set_cons_zero, List.set_cons_succ, List.length_cons, List.length_nil, isLd, Bool.true_and, Bool.false_and, Bool.and_true, Bool.and_false], by simp (maxSteps := 300000) (disch := omega) only [gs, gs2, gs3, ↓reduceIte, Nat.reduceEqDiff, Nat.mul_one, Nat.add_zero, Nat.zero_add, Nat.zero_mul, Int.toNat_natCast, Int.reduceToNat, Nat.reduceMul, Nat.reduceAdd, decide_true, decide_false, Bool.not_true, Bool.not_false, true_and, and_true, List.map_cons, List.map_nil, List.nil_append, List.cons_append, List.append_nil, Option.map_some, Option.bind_some, List.getElem?_cons_zero, List.getElem?_cons_succ, Bool.false_eq_true, not_true_eq_false, not_false_eq_true, List.contains_cons, List.contains_nil, Nat.reduceBEq, Bool.true_or, Bool.false_or, Bool.or_true, List.set_cons_zero, List.set_cons_succ, List.length_cons, List.length_nil, isLd, Bool.true_and, Bool.false_and, Bool.and_true, Bool.and_false], by simp (maxSteps := 300000) (disch := omega) only [gs, gs2, gs3, ↓reduceIte, Nat.reduceEqDiff, Nat.mul_one, Nat.add_zero, Nat.zero_add, Nat.zero_mul, Int.toNat_natCast, Int.reduceToNat, Nat.reduceMul, Nat.reduceAdd, decide_true, decide_false, Bool.not_true, Bool.not_false, true_and, and_true, List.map_cons, List.map_nil, List.nil_append, List.cons_append, List.append_nil, Option.map_some, Option.bind_some, List.getElem?_cons_zero, List.getElem?_cons_succ, Bool.false_eq_true, not_true_eq_false, not_false_eq_true, List.contains_cons, List.contains_nil, Nat.reduceBEq, Bool.true_or, Bool.false_or, Bool.or_true, List.set_cons_zero, List.set_cons_succ, List.length_cons, List.length_nil, isLd, Bool.true_and, Bool.false_and, Bool.and_true, Bool.and_false] <;> rfl, by simp (maxSteps := 300000) (disch := omega) only [gs, gs2, gs3, ↓reduceIte, Nat.reduceEqDiff, Nat.mul_one, Nat.add_zero, Nat.zero_add, Nat.zero_mul, Int.toNat_natCast, Int.reduceToNat, Nat.reduceMul, Nat.reduceAdd, decide_true, decide_false, Bool.not_true, Bool.not_false, true_and, and_true, List.map_cons, List.map_nil, List.nil_append, List.cons_append, List.append_nil, Option.map_some, Option.bind_some, List.getElem?_cons_zero, List.getElem?_cons_succ, Bool.false_eq_true, not_true_eq_false, not_false_eq_true, List.contains_cons, List.contains_nil, Nat.reduceBEq, Bool.true_or, Bool.false_or, Bool.or_true, List.set_cons_zero, List.set_cons_succ, List.length_cons, List.length_nil, isLd, Bool.true_and, Bool.false_and, Bool.and_true, Bool.and_false] <;> rfl, by omega, by omega, hB0⟩ ?_
  clear hB0 hb20
  rintro m T G' ⟨i, B6, c6, e0, e1, e5, e6, e7, hm, hi, hB⟩
  simp (maxSteps := 300000) (disch := omega) only [gs, gs2, gs3, ↓reduceIte, Nat.reduceEqDiff, Nat.mul_one, Nat.add_zero, Nat.zero_add, Nat.zero_mul, Int.toNat_natCast, Int.reduceToNat, Nat.reduceMul, Nat.reduceAdd, decide_true, decide_false, Bool.not_true, Bool.not_false, true_and, and_true, List.map_cons, List.map_nil, List.nil_append, List.cons_append, List.append_nil, Option.map_some, Option.bind_some, List.getElem?_cons_zero, List.getElem?_cons_succ, Bool.false_eq_true, not_true_eq_false, not_false_eq_true, List.contains_cons, List.contains_nil, Nat.reduceBEq, Bool.true_or, Bool.false_or, Bool.or_true, List.set_cons_zero, List.set_cons_succ, List.length_cons, List.length_nil, isLd, Bool.true_and, Bool.false_and, Bool.and_true, Bool.and_false, e0, e1, e5, e6, e7]
  by_cases hii : (i : Int) < n
  · simp (maxSteps := 300000) (disch := omega) only [gs, gs2, gs3, ↓reduceIte, Nat.reduceEqDiff, Nat.mul_one, Nat.add_zero, Nat.zero_add, Nat.zero_mul, Int.toNat_natCast, Int.reduceToNat, Nat.reduceMul, Nat.reduceAdd, decide_true, decide_false, Bool.not_true, Bool.not_false, true_and, and_true, List.map_cons, List.map_nil, List.nil_append, List.cons_append, List.append_nil, Option.map_some, Option.bind_some, List.getElem?_cons_zero, List.getElem?_cons_succ, Bool.false_eq_true, not_true_eq_false, not_false_eq_true, List.contains_cons, List.contains_nil, Nat.reduceBEq, Bool.true_or, Bool.false_or, Bool.or_true, List.set_cons_zero, List.set_cons_succ, List.length_cons, List.length_nil, isLd, Bool.true_and, Bool.false_and, Bool.and_true, Bool.and_false, e0, e1, e5, e6, e7, hii, gBs]
    obtain ⟨A, c, hr1, hr2⟩ := h.sub hB.1
    have hri := hr1 i (by omega)
    have hrow := hr2 i (by omega)
    have hsnB : 0 < sn Br := by have := rd_some hri; rwa [sn_pa] at this
    have hsA := hrow.sn (by rw [rowL_len]; omega)
    refine ⟨by intro v hv; simp at hv, fun b26 hb26 => ?_⟩
    have hN0 : New G' (put G' b26 ⟨List.flatMap (fun v : Value => v.cells.toList) [], true⟩) (some ⟨b26, 0, none⟩) 0 ((rowL 0 fun b => f i b % p).map I64) 1 0 := .inr ⟨b26, [], rfl, hb26, rfl, rfl, rfl, Nat.le_refl _⟩
    refine gLoop_intro (fun m' T' G2 => ∃ (j : Nat) (A8 : Option Addr) (c8 : Nat), T' 0 = .slice Br n cb ∧ T' 1 = .int .i64 p ∧ T' 5 = .int .i64 n ∧ T' 6 = .slice B6 i c6 ∧ T' 7 = .int .i64 i ∧ T' 8 = .slice A8 j c8 ∧ T' 9 = .int .i64 j ∧ m' + j = n ∧ j ≤ n ∧ New G' G2 A8 c8 ((rowL j fun b => f i b % p).map I64) 1 j)
      n ⟨0, _, _, by simp (maxSteps := 300000) (disch := omega) only [gs, gs2, gs3, ↓reduceIte, Nat.reduceEqDiff, Nat.mul_one, Nat.add_zero, Nat.zero_add, Nat.zero_mul, Int.toNat_natCast, Int.reduceToNat, Nat.reduceMul, Nat.reduceAdd, decide_true, decide_false, Bool.not_true, Bool.not_false, true_and, and_true, List.map_cons, List.map_nil, List.nil_append, List.cons_append, List.append_nil, Option.map_some, Option.bind_some, List.getElem?_cons_zero, List.getElem?_cons_succ, Bool.false_eq_true, not_true_eq_false, not_false_eq_true, List.contains_cons, List.contains_nil, Nat.reduceBEq, Bool.true_or, Bool.false_or, Bool.or_true, List.set_cons_zero, List.set_cons_succ, List.length_cons, List.length_nil, isLd, Bool.true_and, Bool.false_and, Bool.and_true, Bool.and_false, e0], by simp (maxSteps := 300000) (disch := omega) only [gs, gs2, gs3, ↓reduceIte, Nat.reduceEqDiff, Nat.mul_one, Nat.add_zero, Nat.zero_add, Nat.zero_mul, Int.toNat_natCast, Int.reduceToNat, Nat.reduceMul, Nat.reduceAdd, decide_true, decide_false, Bool.not_true, Bool.not_false, true_and, and_true, List.map_cons, List.map_nil, List.nil_append, List.cons_append, List.append_nil, Option.map_some, Option.bind_some, List.getElem?_cons_zero, List.getElem?_cons_succ, Bool.false_eq_true, not_true_eq_false, not_false_eq_true, List.contains_cons, List.contains_nil, Nat.reduceBEq, Bool.true_or, Bool.false_or, Bool.or_true, List.set_cons_zero, List.set_cons_succ, List.length_cons, List.length_nil, isLd, Bool.true_and, Bool.false_and, Bool.and_true, Bool.and_false, e1], by simp (maxSteps := 300000) (disch := omega) only [gs, gs2, gs3, ↓reduceIte, Nat.reduceEqDiff, Nat.mul_one, Nat.add_zero, Nat.zero_add, Nat.zero_mul, Int.toNat_natCast, Int.reduceToNat, Nat.reduceMul, Nat.reduceAdd, decide_true, decide_false, Bool.not_true, Bool.not_false, true_and, and_true, List.map_cons, List.map_nil, List.nil_append, List.cons_append, List.append_nil, Option.map_some, Option.bind_some, List.getElem?_cons_zero, List.getElem?_cons_succ, Bool.false_eq_true, not_true_eq_false, not_false_eq_true, List.contains_cons, List.contains_nil, Nat.reduceBEq, Bool.true_or, Bool.false_or, Bool.or_true, List.set_cons_zero, List.set_cons_succ, List.length_cons, List.length_nil, isLd, Bool.true_and, Bool.false_and, Bool.and_true, Bool.and_false, e5], by simp (maxSteps := 300000) (disch := omega) only [gs, gs2, gs3, ↓reduceIte, Nat.reduceEqDiff, Nat.mul_one, Nat.add_zero, Nat.zero_add, Nat.zero_mul, Int.toNat_natCast, Int.reduceToNat, Nat.reduceMul, Nat.reduceAdd, decide_true, decide_false, Bool.not_true, Bool.not_false, true_and, and_true, List.map_cons, List.map_nil, List.nil_append, List.cons_append, List.append_nil, Option.map_some, Option.bind_some, List.getElem?_cons_zero, List.getElem?_cons_succ, Bool.false_eq_true, not_true_eq_false, not_false_eq_true, List.contains_cons, List.contains_nil, Nat.reduceBEq, Bool.true_or, Bool.false_or, Bool.or_true, List.set_cons_zero, List.set_cons_succ, List.length_cons, List.length_nil, isLd, Bool.true_and, Bool.false_and, Bool.and_true, Bool.and_false, e6], by simp (maxSteps := 300000) (disch := omega) only [gs, gs2, gs3, ↓reduceIte, Nat.reduceEqDiff, Nat.mul_one, Nat.add_zero, Nat.zero_add, Nat.zero_mul, Int.toNat_natCast, Int.reduceToNat, Nat.reduceMul, Nat.reduceAdd, decide_true, decide_false, Bool.not_true, Bool.not_false, true_and, and_true, List.map_cons, List.map_nil, List.nil_append, List.cons_append, List.append_nil, Option.map_some, Option.bind_some, List.getElem?_cons_zero, List.getElem?_cons_succ, Bool.false_eq_true, not_true_eq_false, not_false_eq_true, List.contains_cons, List.contains_nil, Nat.reduceBEq, Bool.true_or, Bool.false_or, Bool.or_true, List.set_cons_zero, List.set_cons_succ, List.length_cons, List.length_nil, isLd, Bool.true_and, Bool.false_and, Bool.and_true, Bool.and_false, e7], by simp (maxSteps := 300000) (disch := omega) only [gs, gs2, gs3, ↓reduceIte, Nat.reduceEqDiff, Nat.mul_one, Nat.add_zero, Nat.zero_add, Nat.zero_mul, Int.toNat_natCast, Int.reduceToNat, Nat.reduceMul, Nat.reduceAdd, decide_true, decide_false, Bool.not_true, Bool.not_false, true_and, and_true, List.map_cons, List.map_nil, List.nil_append, List.cons_append, List.append_nil, Option.map_some, Option.bind_some, List.getElem?_cons_zero, List.getElem?_cons_succ, Bool.false_eq_true, not_true_eq_false, not_false_eq_true, List.contains_cons, List.contains_nil, Nat.reduceBEq, Bool.true_or, Bool.false_or, Bool.or_true, List.set_cons_zero, List.set_cons_succ, List.length_cons, List.length_nil, isLd, Bool.true_and, Bool.false_and, Bool.and_true, Bool.and_false] <;> rfl, by simp (maxSteps := 300000) (disch := omega) only [gs, gs2, gs3, ↓reduceIte, Nat.reduceEqDiff, Nat.mul_one, Nat.add_zero, Nat.zero_add, Nat.zero_mul, Int.toNat_natCast, Int.reduceToNat, Nat.reduceMul, Nat.reduceAdd, decide_true, decide_false, Bool.not_true, Bool.not_false, true_and, and_true, List.map_cons, List.map_nil, List.nil_append, List.cons_append, List.append_nil, Option.map_some, Option.bind_some, List.getElem?_cons_zero, List.getElem?_cons_succ, Bool.false_eq_true, not_true_eq_false, not_false_eq_true, List.contains_cons, List.contains_nil, Nat.reduceBEq, Bool.true_or, Bool.false_or, Bool.or_true, List.set_cons_zero, List.set_cons_succ, List.length_cons, List.length_nil, isLd, Bool.true_and, Bool.false_and, Bool.and_true, Bool.and_false] <;> rfl, by omega, by omega, hN0⟩ ?_
    clear e0 e1 e5 e6 e7 hN0 hb26
    rintro m' T' G2 ⟨j, A8, c8, e0, e1, e5, e6, e7, e8, e9, hm', hj, hN⟩
    simp (maxSteps := 300000) (disch := omega) only [gs, gs2, gs3, ↓reduceIte, Nat.reduceEqDiff, Nat.mul_one, Nat.add_zero, Nat.zero_add, Nat.zero_mul, Int.toNat_natCast, Int.reduceToNat, Nat.reduceMul, Nat.reduceAdd, decide_true, decide_false, Bool.not_true, Bool.not_false, true_and, and_true, List.map_cons, List.map_nil, List.nil_append, List.cons_append, List.append_nil, Option.map_some, Option.bind_some, List.getElem?_cons_zero, List.getElem?_cons_succ, Bool.false_eq_true, not_true_eq_false, not_false_eq_true, List.contains_cons, List.contains_nil, Nat.reduceBEq, Bool.true_or, Bool.false_or, Bool.or_true, List.set_cons_zero, List.set_cons_succ, List.length_cons, List.length_nil, isLd, Bool.true_and, Bool.false_and, Bool.and_true, Bool.and_false, e0, e1, e5, e6, e7, e8, e9]
    by_cases hjj : (j : Int) < n
    · have hrj := (hrow.sub hN.sub).rd j (by rw [rowL_len]; omega)
      rw [rowL_get _ (by omega)] at hrj
      have hri2 := rd_sub hN.sub hri
      simp (maxSteps := 300000) (disch := omega) only [gs, gs2, gs3, ↓reduceIte, Nat.reduceEqDiff, Nat.mul_one, Nat.add_zero, Nat.zero_add, Nat.zero_mul, Int.toNat_natCast, Int.reduceToNat, Nat.reduceMul, Nat.reduceAdd, decide_true, decide_false, Bool.not_true, Bool.not_false, true_and, and_true, List.map_cons, List.map_nil, List.nil_append, List.cons_append, List.append_nil, Option.map_some, Option.bind_some, List.getElem?_cons_zero, List.getElem?_cons_succ, Bool.false_eq_true, not_true_eq_false, not_false_eq_true, List.contains_cons, List.contains_nil, Nat.reduceBEq, Bool.true_or, Bool.false_or, Bool.or_true, List.set_cons_zero, List.set_cons_succ, List.length_cons, List.length_nil, isLd, Bool.true_and, Bool.false_and, Bool.and_true, Bool.and_false, e0, e1, e5, e6, e7, e8, e9, hjj, hri2, hrj]
      refine spec_l02Mod_ok ⟨by omega, by omega⟩ ?_
      simp (maxSteps := 300000) (disch := omega) only [gs, gs2, gs3, ↓reduceIte, Nat.reduceEqDiff, Nat.mul_one, Nat.add_zero, Nat.zero_add, Nat.zero_mul, Int.toNat_natCast, Int.reduceToNat, Nat.reduceMul, Nat.reduceAdd, decide_true, decide_false, Bool.not_true, Bool.not_false, true_and, and_true, List.map_cons, List.map_nil, List.nil_append, List.cons_append, List.append_nil, Option.map_some, Option.bind_some, List.getElem?_cons_zero, List.getElem?_cons_succ, Bool.false_eq_true, not_true_eq_false, not_false_eq_true, List.contains_cons, List.contains_nil, Nat.reduceBEq, Bool.true_or, Bool.false_or, Bool.or_true, List.set_cons_zero, List.set_cons_succ, List.length_cons, List.length_nil, isLd, Bool.true_and, Bool.false_and, Bool.and_true, Bool.and_false, e0, e1, e5, e6, e7, e8, e9, gBs]
      refine ⟨by intro v hv; simp at hv; subst hv; rfl, fun b hb => ?_⟩
      refine ap_new hN (Sub.put hb _) (cells_one [.int .i64 (f i j % p)] true) (by rfl) (by intro v hv; simp at hv; subst hv; rfl) rfl (by omega) (by omega) (by omega) fun G3 A' c' hN' => ?_
      simp (maxSteps := 300000) (disch := omega) only [gs, gs2, gs3, ↓reduceIte, Nat.reduceEqDiff, Nat.mul_one, Nat.add_zero, Nat.zero_add, Nat.zero_mul, Int.toNat_natCast, Int.reduceToNat, Nat.reduceMul, Nat.reduceAdd, decide_true, decide_false, Bool.not_true, Bool.not_false, true_and, and_true, List.map_cons, List.map_nil, List.nil_append, List.cons_append, List.append_nil, Option.map_some, Option.bind_some, List.getElem?_cons_zero, List.getElem?_cons_succ, Bool.false_eq_true, not_true_eq_false, not_false_eq_true, List.contains_cons, List.contains_nil, Nat.reduceBEq, Bool.true_or, Bool.false_or, Bool.or_true, List.set_cons_zero, List.set_cons_succ, List.length_cons, List.length_nil, isLd, Bool.true_and, Bool.false_and, Bool.and_true, Bool.and_false, e0, e1, e5, e6, e7, e8, e9]
      exact ⟨m' - 1, by omega, _, Sub.refl _, j + 1, A', c', rfl, rfl, by omega, by omega, hN'.cast (by rw [rowL_succ]; simp [I64]) rfl⟩
    · simp (maxSteps := 300000) (disch := omega) only [gs, gs2, gs3, ↓reduceIte, Nat.reduceEqDiff, Nat.mul_one, Nat.add_zero, Nat.zero_add, Nat.zero_mul, Int.toNat_natCast, Int.reduceToNat, Nat.reduceMul, Nat.reduceAdd, decide_true, decide_false, Bool.not_true, Bool.not_false, true_and, and_true, List.map_cons, List.map_nil, List.nil_append, List.cons_append, List.append_nil, Option.map_some, Option.bind_some, List.getElem?_cons_zero, List.getElem?_cons_succ, Bool.false_eq_true, not_true_eq_false, not_false_eq_true, List.contains_cons, List.contains_nil, Nat.reduceBEq, Bool.true_or, Bool.false_or, Bool.or_true, List.set_cons_zero, List.set_cons_succ, List.length_cons, List.length_nil, isLd, Bool.true_and, Bool.false_and, Bool.and_true, Bool.and_false, e0, e1, e5, e6, e7, e8, e9, hjj, gBs]
      obtain rfl : j = n := by omega
      refine ⟨by intro v hv; simp at hv; subst hv; rfl, fun b hb => ?_⟩
      refine hB.push hN (by omega) (Sub.put hb _) (cells_one [.slice A8 j c8] true) (by omega) fun G4 B4 c4 hB4 => ?_
      simp (maxSteps := 300000) (disch := omega) only [gs, gs2, gs3, ↓reduceIte, Nat.reduceEqDiff, Nat.mul_one, Nat.add_zero, Nat.zero_add, Nat.zero_mul, Int.toNat_natCast, Int.reduceToNat, Nat.reduceMul, Nat.reduceAdd, decide_true, decide_false, Bool.not_true, Bool.not_false, true_and, and_true, List.map_cons, List.map_nil, List.nil_append, List.cons_append, List.append_nil, Option.map_some, Option.bind_some, List.getElem?_cons_zero, List.getElem?_cons_succ, Bool.false_eq_true, not_true_eq_false, not_false_eq_true, List.contains_cons, List.contains_nil, Nat.reduceBEq, Bool.true_or, Bool.false_or, Bool.or_true, List.set_cons_zero, List.set_cons_succ, List.length_cons, List.length_nil, isLd, Bool.true_and, Bool.false_and, Bool.and_true, Bool.and_false, e0, e1, e5, e6, e7, e8, e9]
      exact ⟨m - 1, by omega, _, Sub.refl _, i + 1, B4, c4, rfl, rfl, by omega, by omega, hB4⟩
  · simp (maxSteps := 300000) (disch := omega) only [gs, gs2, gs3, ↓reduceIte, Nat.reduceEqDiff, Nat.mul_one, Nat.add_zero, Nat.zero_add, Nat.zero_mul, Int.toNat_natCast, Int.reduceToNat, Nat.reduceMul, Nat.reduceAdd, decide_true, decide_false, Bool.not_true, Bool.not_false, true_and, and_true, List.map_cons, List.map_nil, List.nil_append, List.cons_append, List.append_nil, Option.map_some, Option.bind_some, List.getElem?_cons_zero, List.getElem?_cons_succ, Bool.false_eq_true, not_true_eq_false, not_false_eq_true, List.contains_cons, List.contains_nil, Nat.reduceBEq, Bool.true_or, Bool.false_or, Bool.or_true, List.set_cons_zero, List.set_cons_succ, List.length_cons, List.length_nil, isLd, Bool.true_and, Bool.false_and, Bool.and_true, Bool.and_false, e0, e1, e5, e6, e7, hii]
    obtain rfl : i = n := by omega
    have hrg : Rng (fun a b => f a b % p) p := fun a b => ⟨Int.emod_nonneg _ (by omega), Int.emod_lt_of_pos _ (by omega)⟩
    have hDt : spDet p i (fun a b => f a b % p) = dt i f % p := by
      rw [spDet_dt (by omega) hI hrg]
      exact dt_mod i fun a b _ _ => Int.emod_emod_of_dvd _ (Int.dvd_refl p)
    rw [← hDt] at hk
    have sG := hB.1
    -- the rows, if there are some
    have hMr : i = 0 ∨ ∃ bO B cp rs ro, B6 = some ⟨bO, 0, none⟩ ∧ Mr G G' bO B cp i i rs ro (fun a b => f a b % p) := by
      by_cases h0 : i = 0
      · exact .inl h0
      · obtain ⟨bO, B, cp, rs, ro, h1, _, h2⟩ := hB.mr (by omega)
        exact .inr ⟨bO, B, cp, rs, ro, h1, h2⟩
    rcases hMr with rfl | ⟨bO, B, cp, rs, ro, rfl, hM⟩
    · refine gLoop_intro (fun m T G2 => T 1 = .int .i64 p ∧ T 5 = .int .i64 0 ∧ T 10 = .int .i64 1 ∧ T 11 = .int .i64 0 ∧ G' = G2) 0 ⟨by simp (maxSteps := 300000) (disch := omega) only [gs, gs2, gs3, ↓reduceIte, Nat.reduceEqDiff, Nat.mul_one, Nat.add_zero, Nat.zero_add, Nat.zero_mul, Int.toNat_natCast, Int.reduceToNat, Nat.reduceMul, Nat.reduceAdd, decide_true, decide_false, Bool.not_true, Bool.not_false, true_and, and_true, List.map_cons, List.map_nil, List.nil_append, List.cons_append, List.append_nil, Option.map_some, Option.bind_some, List.getElem?_cons_zero, List.getElem?_cons_succ, Bool.false_eq_true, not_true_eq_false, not_false_eq_true, List.contains_cons, List.contains_nil, Nat.reduceBEq, Bool.true_or, Bool.false_or, Bool.or_true, List.set_cons_zero, List.set_cons_succ, List.length_cons, List.length_nil, isLd, Bool.true_and, Bool.false_and, Bool.and_true, Bool.and_false, e1], by simp (maxSteps := 300000) (disch := omega) only [gs, gs2, gs3, ↓reduceIte, Nat.reduceEqDiff, Nat.mul_one, Nat.add_zero, Nat.zero_add, Nat.zero_mul, Int.toNat_natCast, Int.reduceToNat, Nat.reduceMul, Nat.reduceAdd, decide_true, decide_false, Bool.not_true, Bool.not_false, true_and, and_true, List.map_cons, List.map_nil, List.nil_append, List.cons_append, List.append_nil, Option.map_some, Option.bind_some, List.getElem?_cons_zero, List.getElem?_cons_succ, Bool.false_eq_true, not_true_eq_false, not_false_eq_true, List.contains_cons, List.contains_nil, Nat.reduceBEq, Bool.true_or, Bool.false_or, Bool.or_true, List.set_cons_zero, List.set_cons_succ, List.length_cons, List.length_nil, isLd, Bool.true_and, Bool.false_and, Bool.and_true, Bool.and_false, e5] <;> rfl, by simp (maxSteps := 300000) (disch := omega) only [gs, gs2, gs3, ↓reduceIte, Nat.reduceEqDiff, Nat.mul_one, Nat.add_zero, Nat.zero_add, Nat.zero_mul, Int.toNat_natCast, Int.reduceToNat, Nat.reduceMul, Nat.reduceAdd, decide_true, decide_false, Bool.not_true, Bool.not_false, true_and, and_true, List.map_cons, List.map_nil, List.nil_append, List.cons_append, List.append_nil, Option.map_some, Option.bind_some, List.getElem?_cons_zero, List.getElem?_cons_succ, Bool.false_eq_true, not_true_eq_false, not_false_eq_true, List.contains_cons, List.contains_nil, Nat.reduceBEq, Bool.true_or, Bool.false_or, Bool.or_true, List.set_cons_zero, List.set_cons_succ, List.length_cons, List.length_nil, isLd, Bool.true_and, Bool.false_and, Bool.and_true, Bool.and_false] <;> rfl, by simp (maxSteps := 300000) (disch := omega) only [gs, gs2, gs3, ↓reduceIte, Nat.reduceEqDiff, Nat.mul_one, Nat.add_zero, Nat.zero_add, Nat.zero_mul, Int.toNat_natCast, Int.reduceToNat, Nat.reduceMul, Nat.reduceAdd, decide_true, decide_false, Bool.not_true, Bool.not_false, true_and, and_true, List.map_cons, List.map_nil, List.nil_append, List.cons_append, List.append_nil, Option.map_some, Option.bind_some, List.getElem?_cons_zero, List.getElem?_cons_succ, Bool.false_eq_true, not_true_eq_false, not_false_eq_true, List.contains_cons, List.contains_nil, Nat.reduceBEq, Bool.true_or, Bool.false_or, Bool.or_true, List.set_cons_zero, List.set_cons_succ, List.length_cons, List.length_nil, isLd, Bool.true_and, Bool.false_and, Bool.and_true, Bool.and_false] <;> rfl, rfl⟩ ?_
      rintro m T G2 ⟨e1, e5, e10, e11, rfl⟩
      have h1p : (1 : Int).tmod p = 1 := by rw [Int.tmod_eq_emod_of_nonneg (by omega)]; exact Int.emod_eq_of_lt (by omega) (by omega)
      simp (maxSteps := 300000) (disch := omega) only [gs, gs2, gs3, ↓reduceIte, Nat.reduceEqDiff, Nat.mul_one, Nat.add_zero, Nat.zero_add, Nat.zero_mul, Int.toNat_natCast, Int.reduceToNat, Nat.reduceMul, Nat.reduceAdd, decide_true, decide_false, Bool.not_true, Bool.not_false, true_and, and_true, List.map_cons, List.map_nil, List.nil_append, List.cons_append, List.append_nil, Option.map_some, Option.bind_some, List.getElem?_cons_zero, List.getElem?_cons_succ, Bool.false_eq_true, not_true_eq_false, not_false_eq_true, List.contains_cons, List.contains_nil, Nat.reduceBEq, Bool.true_or, Bool.false_or, Bool.or_true, List.set_cons_zero, List.set_cons_succ, List.length_cons, List.length_nil, isLd, Bool.true_and, Bool.false_and, Bool.and_true, Bool.and_false, e1, e5, e10, e11, show ((0 : Int) < 0) = False from eq_false (by omega), bin_rem .i64 1 p (by omega), h1p]
      have e : spDet p 0 (fun a b => f a b % p) = 1 := by show (1 : Int) % p = 1; exact Int.emod_eq_of_lt (by omega) (by omega)
      rw [e] at hk
      exact ⟨G, sG, hk⟩
    refine gLoop_intro (fun m T G2 => ∃ (c : Nat) (B cp : Nat → Nat) (rs : Nat → List Value) (s : (Int → Int → Int) × Int), T 1 = .int .i64 p ∧ T 5 = .int .i64 i ∧ T 6 = .slice (some ⟨bO, 0, none⟩) i c6 ∧ T 10 = .int .i64 s.2 ∧ T 11 = .int .i64 c ∧ m + c = i ∧ c ≤ i ∧ spF p i (fun a b => f a b % p) c = some s ∧ Mr G G2 bO B cp i i rs ro s.1)
      i ⟨0, B, cp, rs, (_, 1), by simp (maxSteps := 300000) (disch := omega) only [gs, gs2, gs3, ↓reduceIte, Nat.reduceEqDiff, Nat.mul_one, Nat.add_zero, Nat.zero_add, Nat.zero_mul, Int.toNat_natCast, Int.reduceToNat, Nat.reduceMul, Nat.reduceAdd, decide_true, decide_false, Bool.not_true, Bool.not_false, true_and, and_true, List.map_cons, List.map_nil, List.nil_append, List.cons_append, List.append_nil, Option.map_some, Option.bind_some, List.getElem?_cons_zero, List.getElem?_cons_succ, Bool.false_eq_true, not_true_eq_false, not_false_eq_true, List.contains_cons, List.contains_nil, Nat.reduceBEq, Bool.true_or, Bool.false_or, Bool.or_true, List.set_cons_zero, List.set_cons_succ, List.length_cons, List.length_nil, isLd, Bool.true_and, Bool.false_and, Bool.and_true, Bool.and_false, e1], by simp (maxSteps := 300000) (disch := omega) only [gs, gs2, gs3, ↓reduceIte, Nat.reduceEqDiff, Nat.mul_one, Nat.add_zero, Nat.zero_add, Nat.zero_mul, Int.toNat_natCast, Int.reduceToNat, Nat.reduceMul, Nat.reduceAdd, decide_true, decide_false, Bool.not_true, Bool.not_false, true_and, and_true, List.map_cons, List.map_nil, List.nil_append, List.cons_append, List.append_nil, Option.map_some, Option.bind_some, List.getElem?_cons_zero, List.getElem?_cons_succ, Bool.false_eq_true, not_true_eq_false, not_false_eq_true, List.contains_cons, List.contains_nil, Nat.reduceBEq, Bool.true_or, Bool.false_or, Bool.or_true, List.set_cons_zero, List.set_cons_succ, List.length_cons, List.length_nil, isLd, Bool.true_and, Bool.false_and, Bool.and_true, Bool.and_false, e5], by simp (maxSteps := 300000) (disch := omega) only [gs, gs2, gs3, ↓reduceIte, Nat.reduceEqDiff, Nat.mul_one, Nat.add_zero, Nat.zero_add, Nat.zero_mul, Int.toNat_natCast, Int.reduceToNat, Nat.reduceMul, Nat.reduceAdd, decide_true, decide_false, Bool.not_true, Bool.not_false, true_and, and_true, List.map_cons, List.map_nil, List.nil_append, List.cons_append, List.append_nil, Option.map_some, Option.bind_some, List.getElem?_cons_zero, List.getElem?_cons_succ, Bool.false_eq_true, not_true_eq_false, not_false_eq_true, List.contains_cons, List.contains_nil, Nat.reduceBEq, Bool.true_or, Bool.false_or, Bool.or_true, List.set_cons_zero, List.set_cons_succ, List.length_cons, List.length_nil, isLd, Bool.true_and, Bool.false_and, Bool.and_true, Bool.and_false, e6], by simp (maxSteps := 300000) (disch := omega) only [gs, gs2, gs3, ↓reduceIte, Nat.reduceEqDiff, Nat.mul_one, Nat.add_zero, Nat.zero_add, Nat.zero_mul, Int.toNat_natCast, Int.reduceToNat, Nat.reduceMul, Nat.reduceAdd, decide_true, decide_false, Bool.not_true, Bool.not_false, true_and, and_true, List.map_cons, List.map_nil, List.nil_append, List.cons_append, List.append_nil, Option.map_some, Option.bind_some, List.getElem?_cons_zero, List.getElem?_cons_succ, Bool.false_eq_true, not_true_eq_false, not_false_eq_true, List.contains_cons, List.contains_nil, Nat.reduceBEq, Bool.true_or, Bool.false_or, Bool.or_true, List.set_cons_zero, List.set_cons_succ, List.length_cons, List.length_nil, isLd, Bool.true_and, Bool.false_and, Bool.and_true, Bool.and_false] <;> rfl, by simp (maxSteps := 300000) (disch := omega) only [gs, gs2, gs3, ↓reduceIte, Nat.reduceEqDiff, Nat.mul_one, Nat.add_zero, Nat.zero_add, Nat.zero_mul, Int.toNat_natCast, Int.reduceToNat, Nat.reduceMul, Nat.reduceAdd, decide_true, decide_false, Bool.not_true, Bool.not_false, true_and, and_true, List.map_cons, List.map_nil, List.nil_append, List.cons_append, List.append_nil, Option.map_some, Option.bind_some, List.getElem?_cons_zero, List.getElem?_cons_succ, Bool.false_eq_true, not_true_eq_false, not_false_eq_true, List.contains_cons, List.contains_nil, Nat.reduceBEq, Bool.true_or, Bool.false_or, Bool.or_true, List.set_cons_zero, List.set_cons_succ, List.length_cons, List.length_nil, isLd, Bool.true_and, Bool.false_and, Bool.and_true, Bool.and_false] <;> rfl, by omega, by omega, rfl, hM⟩ ?_
    clear e0 e1 e5 e6 e7 hM hB hii hm hi
    rintro m T G2 ⟨c, B, cp, rs, s, e1, e5, e6, e10, e11, hm, hc, hsp, hM⟩
    obtain ⟨hrs, ho0, ho1⟩ := spF_rng (by omega) hrg c s hsp
    simp (maxSteps := 300000) (disch := omega) only [gs, gs2, gs3, ↓reduceIte, Nat.reduceEqDiff, Nat.mul_one, Nat.add_zero, Nat.zero_add, Nat.zero_mul, Int.toNat_natCast, Int.reduceToNat, Nat.reduceMul, Nat.reduceAdd, decide_true, decide_false, Bool.not_true, Bool.not_false, true_and, and_true, List.map_cons, List.map_nil, List.nil_append, List.cons_append, List.append_nil, Option.map_some, Option.bind_some, List.getElem?_cons_zero, List.getElem?_cons_succ, Bool.false_eq_true, not_true_eq_false, not_false_eq_true, List.contains_cons, List.contains_nil, Nat.reduceBEq, Bool.true_or, Bool.false_or, Bool.or_true, List.set_cons_zero, List.set_cons_succ, List.length_cons, List.length_nil, isLd, Bool.true_and, Bool.false_and, Bool.and_true, Bool.and_false, e1, e5, e6, e10, e11]
    by_cases hcc : (c : Int) < i
    · simp (maxSteps := 300000) (disch := omega) only [gs, gs2, gs3, ↓reduceIte, Nat.reduceEqDiff, Nat.mul_one, Nat.add_zero, Nat.zero_add, Nat.zero_mul, Int.toNat_natCast, Int.reduceToNat, Nat.reduceMul, Nat.reduceAdd, decide_true, decide_false, Bool.not_true, Bool.not_false, true_and, and_true, List.map_cons, List.map_nil, List.nil_append, List.cons_append, List.append_nil, Option.map_some, Option.bind_some, List.getElem?_cons_zero, List.getElem?_cons_succ, Bool.false_eq_true, not_true_eq_false, not_false_eq_true, List.contains_cons, List.contains_nil, Nat.reduceBEq, Bool.true_or, Bool.false_or, Bool.or_true, List.set_cons_zero, List.set_cons_succ, List.length_cons, List.length_nil, isLd, Bool.true_and, Bool.false_and, Bool.and_true, Bool.and_false, e1, e5, e6, e10, e11, hcc]
      refine det_l2 (cb := c6) (c := c) hM (by omega) hn (by simp (maxSteps := 300000) (disch := omega) only [gs, gs2, gs3, ↓reduceIte, Nat.reduceEqDiff, Nat.mul_one, Nat.add_zero, Nat.zero_add, Nat.zero_mul, Int.toNat_natCast, Int.reduceToNat, Nat.reduceMul, Nat.reduceAdd, decide_true, decide_false, Bool.not_true, Bool.not_false, true_and, and_true, List.map_cons, List.map_nil, List.nil_append, List.cons_append, List.append_nil, Option.map_some, Option.bind_some, List.getElem?_cons_zero, List.getElem?_cons_succ, Bool.false_eq_true, not_true_eq_false, not_false_eq_true, List.contains_cons, List.contains_nil, Nat.reduceBEq, Bool.true_or, Bool.false_or, Bool.or_true, List.set_cons_zero, List.set_cons_succ, List.length_cons, List.length_nil, isLd, Bool.true_and, Bool.false_and, Bool.and_true, Bool.and_false, e5]) (by simp (maxSteps := 300000) (disch := omega) only [gs, gs2, gs3, ↓reduceIte, Nat.reduceEqDiff, Nat.mul_one, Nat.add_zero, Nat.zero_add, Nat.zero_mul, Int.toNat_natCast, Int.reduceToNat, Nat.reduceMul, Nat.reduceAdd, decide_true, decide_false, Bool.not_true, Bool.not_false, true_and, and_true, List.map_cons, List.map_nil, List.nil_append, List.cons_append, List.append_nil, Option.map_some, Option.bind_some, List.getElem?_cons_zero, List.getElem?_cons_succ, Bool.false_eq_true, not_true_eq_false, not_false_eq_true, List.contains_cons, List.contains_nil, Nat.reduceBEq, Bool.true_or, Bool.false_or, Bool.or_true, List.set_cons_zero, List.set_cons_succ, List.length_cons, List.length_nil, isLd, Bool.true_and, Bool.false_and, Bool.and_true, Bool.and_false, e6]) (by simp (maxSteps := 300000) (disch := omega) only [gs, gs2, gs3, ↓reduceIte, Nat.reduceEqDiff, Nat.mul_one, Nat.add_zero, Nat.zero_add, Nat.zero_mul, Int.toNat_natCast, Int.reduceToNat, Nat.reduceMul, Nat.reduceAdd, decide_true, decide_false, Bool.not_true, Bool.not_false, true_and, and_true, List.map_cons, List.map_nil, List.nil_append, List.cons_append, List.append_nil, Option.map_some, Option.bind_some, List.getElem?_cons_zero, List.getElem?_cons_succ, Bool.false_eq_true, not_true_eq_false, not_false_eq_true, List.contains_cons, List.contains_nil, Nat.reduceBEq, Bool.true_or, Bool.false_or, Bool.or_true, List.set_cons_zero, List.set_cons_succ, List.length_cons, List.length_nil, isLd, Bool.true_and, Bool.false_and, Bool.and_true, Bool.and_false, e11]) (by simp (maxSteps := 300000) (disch := omega) only [gs, gs2, gs3, ↓reduceIte, Nat.reduceEqDiff, Nat.mul_one, Nat.add_zero, Nat.zero_add, Nat.zero_mul, Int.toNat_natCast, Int.reduceToNat, Nat.reduceMul, Nat.reduceAdd, decide_true, decide_false, Bool.not_true, Bool.not_false, true_and, and_true, List.map_cons, List.map_nil, List.nil_append, List.cons_append, List.append_nil, Option.map_some, Option.bind_some, List.getElem?_cons_zero, List.getElem?_cons_succ, Bool.false_eq_true, not_true_eq_false, not_false_eq_true, List.contains_cons, List.contains_nil, Nat.reduceBEq, Bool.true_or, Bool.false_or, Bool.or_true, List.set_cons_zero, List.set_cons_succ, List.length_cons, List.length_nil, isLd, Bool.true_and, Bool.false_and, Bool.and_true, Bool.and_false, e11]) fun T2 at' hT2 f12 ha1 ha2 ha3 ha4 => ?_
      have f1 : T2 1 = .int .i64 p := (hT2 1 (by omega)).trans (by simp (maxSteps := 300000) (disch := omega) only [gs, gs2, gs3, ↓reduceIte, Nat.reduceEqDiff, Nat.mul_one, Nat.add_zero, Nat.zero_add, Nat.zero_mul, Int.toNat_natCast, Int.reduceToNat, Nat.reduceMul, Nat.reduceAdd, decide_true, decide_false, Bool.not_true, Bool.not_false, true_and, and_true, List.map_cons, List.map_nil, List.nil_append, List.cons_append, List.append_nil, Option.map_some, Option.bind_some, List.getElem?_cons_zero, List.getElem?_cons_succ, Bool.false_eq_true, not_true_eq_false, not_false_eq_true, List.contains_cons, List.contains_nil, Nat.reduceBEq, Bool.true_or, Bool.false_or, Bool.or_true, List.set_cons_zero, List.set_cons_succ, List.length_cons, List.length_nil, isLd, Bool.true_and, Bool.false_and, Bool.and_true, Bool.and_false, e1])
      have f5 : T2 5 = .int .i64 i := (hT2 5 (by omega)).trans (by simp (maxSteps := 300000) (disch := omega) only [gs, gs2, gs3, ↓reduceIte, Nat.reduceEqDiff, Nat.mul_one, Nat.add_zero, Nat.zero_add, Nat.zero_mul, Int.toNat_natCast, Int.reduceToNat, Nat.reduceMul, Nat.reduceAdd, decide_true, decide_false, Bool.not_true, Bool.not_false, true_and, and_true, List.map_cons, List.map_nil, List.nil_append, List.cons_append, List.append_nil, Option.map_some, Option.bind_some, List.getElem?_cons_zero, List.getElem?_cons_succ, Bool.false_eq_true, not_true_eq_false, not_false_eq_true, List.contains_cons, List.contains_nil, Nat.reduceBEq, Bool.true_or, Bool.false_or, Bool.or_true, List.set_cons_zero, List.set_cons_succ, List.length_cons, List.length_nil, isLd, Bool.true_and, Bool.false_and, Bool.and_true, Bool.and_false, e5])
      have f6 : T2 6 = .slice (some ⟨bO, 0, none⟩) i c6 := (hT2 6 (by omega)).trans (by simp (maxSteps := 300000) (disch := omega) only [gs, gs2, gs3, ↓reduceIte, Nat.reduceEqDiff, Nat.mul_one, Nat.add_zero, Nat.zero_add, Nat.zero_mul, Int.toNat_natCast, Int.reduceToNat, Nat.reduceMul, Nat.reduceAdd, decide_true, decide_false, Bool.not_true, Bool.not_false, true_and, and_true, List.map_cons, List.map_nil, List.nil_append, List.cons_append, List.append_nil, Option.map_some, Option.bind_some, List.getElem?_cons_zero, List.getElem?_cons_succ, Bool.false_eq_true, not_true_eq_false, not_false_eq_true, List.contains_cons, List.contains_nil, Nat.reduceBEq, Bool.true_or, Bool.false_or, Bool.or_true, List.set_cons_zero, List.set_cons_succ, List.length_cons, List.length_nil, isLd, Bool.true_and, Bool.false_and, Bool.and_true, Bool.and_false, e6])
      have f10 : T2 10 = .int .i64 s.2 := (hT2 10 (by omega)).trans (by simp (maxSteps := 300000) (disch := omega) only [gs, gs2, gs3, ↓reduceIte, Nat.reduceEqDiff, Nat.mul_one, Nat.add_zero, Nat.zero_add, Nat.zero_mul, Int.toNat_natCast, Int.reduceToNat, Nat.reduceMul, Nat.reduceAdd, decide_true, decide_false, Bool.not_true, Bool.not_false, true_and, and_true, List.map_cons, List.map_nil, List.nil_append, List.cons_append, List.append_nil, Option.map_some, Option.bind_some, List.getElem?_cons_zero, List.getElem?_cons_succ, Bool.false_eq_true, not_true_eq_false, not_false_eq_true, List.contains_cons, List.contains_nil, Nat.reduceBEq, Bool.true_or, Bool.false_or, Bool.or_true, List.set_cons_zero, List.set_cons_succ, List.length_cons, List.length_nil, isLd, Bool.true_and, Bool.false_and, Bool.and_true, Bool.and_false, e10])
      have f11 : T2 11 = .int .i64 c := (hT2 11 (by omega)).trans (by simp (maxSteps := 300000) (disch := omega) only [gs, gs2, gs3, ↓reduceIte, Nat.reduceEqDiff, Nat.mul_one, Nat.add_zero, Nat.zero_add, Nat.zero_mul, Int.toNat_natCast, Int.reduceToNat, Nat.reduceMul, Nat.reduceAdd, decide_true, decide_false, Bool.not_true, Bool.not_false, true_and, and_true, List.map_cons, List.map_nil, List.nil_append, List.cons_append, List.append_nil, Option.map_some, Option.bind_some, List.getElem?_cons_zero, List.getElem?_cons_succ, Bool.false_eq_true, not_true_eq_false, not_false_eq_true, List.contains_cons, List.contains_nil, Nat.reduceBEq, Bool.true_or, Bool.false_or, Bool.or_true, List.set_cons_zero, List.set_cons_succ, List.length_cons, List.length_nil, isLd, Bool.true_and, Bool.false_and, Bool.and_true, Bool.and_false, e11])
      simp (maxSteps := 300000) (disch := omega) only [gs, gs2, gs3, ↓reduceIte, Nat.reduceEqDiff, Nat.mul_one, Nat.add_zero, Nat.zero_add, Nat.zero_mul, Int.toNat_natCast, Int.reduceToNat, Nat.reduceMul, Nat.reduceAdd, decide_true, decide_false, Bool.not_true, Bool.not_false, true_and, and_true, List.map_cons, List.map_nil, List.nil_append, List.cons_append, List.append_nil, Option.map_some, Option.bind_some, List.getElem?_cons_zero, List.getElem?_cons_succ, Bool.false_eq_true, not_true_eq_false, not_false_eq_true, List.contains_cons, List.contains_nil, Nat.reduceBEq, Bool.true_or, Bool.false_or, Bool.or_true, List.set_cons_zero, List.set_cons_succ, List.length_cons, List.length_nil, isLd, Bool.true_and, Bool.false_and, Bool.and_true, Bool.and_false, f1, f5, f6, f10, f11, f12]
      by_cases hat : at' = i
      · simp (maxSteps := 300000) (disch := omega) only [gs, gs2, gs3, ↓reduceIte, Nat.reduceEqDiff, Nat.mul_one, Nat.add_zero, Nat.zero_add, Nat.zero_mul, Int.toNat_natCast, Int.reduceToNat, Nat.reduceMul, Nat.reduceAdd, decide_true, decide_false, Bool.not_true, Bool.not_false, true_and, and_true, List.map_cons, List.map_nil, List.nil_append, List.cons_append, List.append_nil, Option.map_some, Option.bind_some, List.getElem?_cons_zero, List.getElem?_cons_succ, Bool.false_eq_true, not_true_eq_false, not_false_eq_true, List.contains_cons, List.contains_nil, Nat.reduceBEq, Bool.true_or, Bool.false_or, Bool.or_true, List.set_cons_zero, List.set_cons_succ, List.length_cons, List.length_nil, isLd, Bool.true_and, Bool.false_and, Bool.and_true, Bool.and_false, show ((at' : Int) = i) = True from eq_true (by omega)]
        have e : spF p i (fun a b => f a b % p) (c + 1) = none := by
          show (spF p i _ c).bind _ = none
          rw [hsp]
          show spS p i s c = none
          unfold spS; rw [fstRow_none fun j h1 h2 => ha4 j h1 (by omega)]
        have e2 : spDet p i (fun a b => f a b % p) = 0 := by
          have := spF_none e (i - (c + 1))
          rw [show c + 1 + (i - (c + 1)) = i by omega] at this
          unfold spDet; rw [this]
        rw [e2] at hk
        exact ⟨G, hM.sub, hk⟩
      · rw [decide_eq_false (show ¬ (at' : Int) = i by omega)]
        have hS : spF p i (fun a b => f a b % p) (c + 1) = some (lowr (swp s.1 c at') c (invF (swp s.1 c at' c c) p) p, (if at' = c then s.2 else p - s.2) * swp s.1 c at' c c % p) := by
          show (spF p i _ c).bind _ = _
          rw [hsp]
          show spS p i s c = _
          unfold spS; rw [fstRow_some ha1 (by omega) (ha3 (by omega)) ha4]
        refine det_swap (X := dtTail) (cb := c6) (out := s.2) hM hp ⟨ho0, ho1⟩ ha1 (by omega) hn (by simp (maxSteps := 300000) (disch := omega) only [gs, gs2, gs3, ↓reduceIte, Nat.reduceEqDiff, Nat.mul_one, Nat.add_zero, Nat.zero_add, Nat.zero_mul, Int.toNat_natCast, Int.reduceToNat, Nat.reduceMul, Nat.reduceAdd, decide_true, decide_false, Bool.not_true, Bool.not_false, true_and, and_true, List.map_cons, List.map_nil, List.nil_append, List.cons_append, List.append_nil, Option.map_some, Option.bind_some, List.getElem?_cons_zero, List.getElem?_cons_succ, Bool.false_eq_true, not_true_eq_false, not_false_eq_true, List.contains_cons, List.contains_nil, Nat.reduceBEq, Bool.true_or, Bool.false_or, Bool.or_true, List.set_cons_zero, List.set_cons_succ, List.length_cons, List.length_nil, isLd, Bool.true_and, Bool.false_and, Bool.and_true, Bool.and_false, f1]) (by simp (maxSteps := 300000) (disch := omega) only [gs, gs2, gs3, ↓reduceIte, Nat.reduceEqDiff, Nat.mul_one, Nat.add_zero, Nat.zero_add, Nat.zero_mul, Int.toNat_natCast, Int.reduceToNat, Nat.reduceMul, Nat.reduceAdd, decide_true, decide_false, Bool.not_true, Bool.not_false, true_and, and_true, List.map_cons, List.map_nil, List.nil_append, List.cons_append, List.append_nil, Option.map_some, Option.bind_some, List.getElem?_cons_zero, List.getElem?_cons_succ, Bool.false_eq_true, not_true_eq_false, not_false_eq_true, List.contains_cons, List.contains_nil, Nat.reduceBEq, Bool.true_or, Bool.false_or, Bool.or_true, List.set_cons_zero, List.set_cons_succ, List.length_cons, List.length_nil, isLd, Bool.true_and, Bool.false_and, Bool.and_true, Bool.and_false, f5]) (by simp (maxSteps := 300000) (disch := omega) only [gs, gs2, gs3, ↓reduceIte, Nat.reduceEqDiff, Nat.mul_one, Nat.add_zero, Nat.zero_add, Nat.zero_mul, Int.toNat_natCast, Int.reduceToNat, Nat.reduceMul, Nat.reduceAdd, decide_true, decide_false, Bool.not_true, Bool.not_false, true_and, and_true, List.map_cons, List.map_nil, List.nil_append, List.cons_append, List.append_nil, Option.map_some, Option.bind_some, List.getElem?_cons_zero, List.getElem?_cons_succ, Bool.false_eq_true, not_true_eq_false, not_false_eq_true, List.contains_cons, List.contains_nil, Nat.reduceBEq, Bool.true_or, Bool.false_or, Bool.or_true, List.set_cons_zero, List.set_cons_succ, List.length_cons, List.length_nil, isLd, Bool.true_and, Bool.false_and, Bool.and_true, Bool.and_false, f6]) (by simp (maxSteps := 300000) (disch := omega) only [gs, gs2, gs3, ↓reduceIte, Nat.reduceEqDiff, Nat.mul_one, Nat.add_zero, Nat.zero_add, Nat.zero_mul, Int.toNat_natCast, Int.reduceToNat, Nat.reduceMul, Nat.reduceAdd, decide_true, decide_false, Bool.not_true, Bool.not_false, true_and, and_true, List.map_cons, List.map_nil, List.nil_append, List.cons_append, List.append_nil, Option.map_some, Option.bind_some, List.getElem?_cons_zero, List.getElem?_cons_succ, Bool.false_eq_true, not_true_eq_false, not_false_eq_true, List.contains_cons, List.contains_nil, Nat.reduceBEq, Bool.true_or, Bool.false_or, Bool.or_true, List.set_cons_zero, List.set_cons_succ, List.length_cons, List.length_nil, isLd, Bool.true_and, Bool.false_and, Bool.and_true, Bool.and_false, f10]) (by simp (maxSteps := 300000) (disch := omega) only [gs, gs2, gs3, ↓reduceIte, Nat.reduceEqDiff, Nat.mul_one, Nat.add_zero, Nat.zero_add, Nat.zero_mul, Int.toNat_natCast, Int.reduceToNat, Nat.reduceMul, Nat.reduceAdd, decide_true, decide_false, Bool.not_true, Bool.not_false, true_and, and_true, List.map_cons, List.map_nil, List.nil_append, List.cons_append, List.append_nil, Option.map_some, Option.bind_some, List.getElem?_cons_zero, List.getElem?_cons_succ, Bool.false_eq_true, not_true_eq_false, not_false_eq_true, List.contains_cons, List.contains_nil, Nat.reduceBEq, Bool.true_or, Bool.false_or, Bool.or_true, List.set_cons_zero, List.set_cons_succ, List.length_cons, List.length_nil, isLd, Bool.true_and, Bool.false_and, Bool.and_true, Bool.and_false, f11]) (by simp (maxSteps := 300000) (disch := omega) only [gs, gs2, gs3, ↓reduceIte, Nat.reduceEqDiff, Nat.mul_one, Nat.add_zero, Nat.zero_add, Nat.zero_mul, Int.toNat_natCast, Int.reduceToNat, Nat.reduceMul, Nat.reduceAdd, decide_true, decide_false, Bool.not_true, Bool.not_false, true_and, and_true, List.map_cons, List.map_nil, List.nil_append, List.cons_append, List.append_nil, Option.map_some, Option.bind_some, List.getElem?_cons_zero, List.getElem?_cons_succ, Bool.false_eq_true, not_true_eq_false, not_false_eq_true, List.contains_cons, List.contains_nil, Nat.reduceBEq, Bool.true_or, Bool.false_or, Bool.or_true, List.set_cons_zero, List.set_cons_succ, List.length_cons, List.length_nil, isLd, Bool.true_and, Bool.false_and, Bool.and_true, Bool.and_false, f12]) fun T3 G3 B3 cp3 rs3 g1 g5 g6 g10 g11 hM3 => ?_
        refine det_tail (cb := c6) (out := if at' = c then s.2 else p - s.2) hM3 (hrs.swp _ _) hp (by split <;> omega) (by omega) hn g1 g5 g6 g10 g11 fun T4 G4 k1 k5 k6 k10 k11 hM4 => ?_
        simp (maxSteps := 300000) (disch := omega) only [gs, gs2, gs3, ↓reduceIte, Nat.reduceEqDiff, Nat.mul_one, Nat.add_zero, Nat.zero_add, Nat.zero_mul, Int.toNat_natCast, Int.reduceToNat, Nat.reduceMul, Nat.reduceAdd, decide_true, decide_false, Bool.not_true, Bool.not_false, true_and, and_true, List.map_cons, List.map_nil, List.nil_append, List.cons_append, List.append_nil, Option.map_some, Option.bind_some, List.getElem?_cons_zero, List.getElem?_cons_succ, Bool.false_eq_true, not_true_eq_false, not_false_eq_true, List.contains_cons, List.contains_nil, Nat.reduceBEq, Bool.true_or, Bool.false_or, Bool.or_true, List.set_cons_zero, List.set_cons_succ, List.length_cons, List.length_nil, isLd, Bool.true_and, Bool.false_and, Bool.and_true, Bool.and_false, k1, k5, k6, k10, k11]
        exact ⟨m - 1, by omega, G4, Sub.refl _, c + 1, B3, cp3, rs3, _, rfl, rfl, by omega, by omega, hS, hM4⟩
    · obtain rfl : c = i := by omega
      have hrm : s.2.tmod p = s.2 % p := Int.tmod_eq_emod_of_nonneg ho0
      simp (maxSteps := 300000) (disch := omega) only [gs, gs2, gs3, ↓reduceIte, Nat.reduceEqDiff, Nat.mul_one, Nat.add_zero, Nat.zero_add, Nat.zero_mul, Int.toNat_natCast, Int.reduceToNat, Nat.reduceMul, Nat.reduceAdd, decide_true, decide_false, Bool.not_true, Bool.not_false, true_and, and_true, List.map_cons, List.map_nil, List.nil_append, List.cons_append, List.append_nil, Option.map_some, Option.bind_some, List.getElem?_cons_zero, List.getElem?_cons_succ, Bool.false_eq_true, not_true_eq_false, not_false_eq_true, List.contains_cons, List.contains_nil, Nat.reduceBEq, Bool.true_or, Bool.false_or, Bool.or_true, List.set_cons_zero, List.set_cons_succ, List.length_cons, List.length_nil, isLd, Bool.true_and, Bool.false_and, Bool.and_true, Bool.and_false, e1, e5, e6, e10, e11, hcc, bin_rem .i64 s.2 p (by omega), hrm]
      have e2 : spDet p c (fun a b => f a b % p) = s.2 % p := by unfold spDet; rw [hsp]
      rw [e2] at hk
      exact ⟨G, hM.sub, hk⟩
/-- a determinant that is found from its rests modulo two primes. -/
theorem rows_bd {D : Int} (h : 0 ≤ D ∧ D < 998244353000000000) : D < 998244353 * 1000000007 := by omega
theorem spec_l16Exact_ok {G : GH} {Br : Option Addr} {cb n : Nat} {f : Int → Int → Int} (h : RowsS G Br n n f) (hn : n < 2 ^ 10) (hD : 0 ≤ dt n f ∧ dt n f < 998244353000000000) {K : Value → GH → Prop}
    (hk : K (.int .i64 (dt n f)) G) : GC Try.prog 176 [.slice Br n cb] G K := by
  refine c_spec_l16Exact_i (by simp) ?_
  simp (maxSteps := 300000) (disch := omega) only [gs, gs2, gs3, ↓reduceIte, Nat.reduceEqDiff, Nat.mul_one, Nat.add_zero, Nat.zero_add, Nat.zero_mul, Int.toNat_natCast, Int.reduceToNat, Nat.reduceMul, Nat.reduceAdd, decide_true, decide_false, Bool.not_true, Bool.not_false, true_and, and_true, List.map_cons, List.map_nil, List.nil_append, List.cons_append, List.append_nil, Option.map_some, Option.bind_some, List.getElem?_cons_zero, List.getElem?_cons_succ, Bool.false_eq_true, not_true_eq_false, not_false_eq_true, List.contains_cons, List.contains_nil, Nat.reduceBEq, Bool.true_or, Bool.false_or, Bool.or_true, List.set_cons_zero, List.set_cons_succ, List.length_cons, List.length_nil, isLd, Bool.true_and, Bool.false_and, Bool.and_true, Bool.and_false]
  refine spec_l16Determinant_ok h hn ⟨by omega, by omega⟩ hasInv_7 ?_
  simp (maxSteps := 300000) (disch := omega) only [gs, gs2, gs3, ↓reduceIte, Nat.reduceEqDiff, Nat.mul_one, Nat.add_zero, Nat.zero_add, Nat.zero_mul, Int.toNat_natCast, Int.reduceToNat, Nat.reduceMul, Nat.reduceAdd, decide_true, decide_false, Bool.not_true, Bool.not_false, true_and, and_true, List.map_cons, List.map_nil, List.nil_append, List.cons_append, List.append_nil, Option.map_some, Option.bind_some, List.getElem?_cons_zero, List.getElem?_cons_succ, Bool.false_eq_true, not_true_eq_false, not_false_eq_true, List.contains_cons, List.contains_nil, Nat.reduceBEq, Bool.true_or, Bool.false_or, Bool.or_true, List.set_cons_zero, List.set_cons_succ, List.length_cons, List.length_nil, isLd, Bool.true_and, Bool.false_and, Bool.and_true, Bool.and_false]
  refine spec_l16Determinant_ok h hn ⟨by omega, by omega⟩ hasInv_3 ?_
  generalize dt n f = D at *
  have d1 := Int.emod_nonneg D (show (1000000007 : Int) ≠ 0 by omega)
  have d2 := Int.emod_lt_of_pos D (show (0 : Int) < 1000000007 by omega)
  have d3 := Int.emod_nonneg D (show (998244353 : Int) ≠ 0 by omega)
  have d4 := Int.emod_lt_of_pos D (show (0 : Int) < 998244353 by omega)
  have hrm0 : (1000000007 : Int).tmod 998244353 = 1755654 := by decide
  have hr0 : binV .rem (.int .i64 1000000007) (.int .i64 998244353) = some (.int .i64 1755654) := by rw [bin_rem _ _ _ (by omega), hrm0]
  simp (maxSteps := 300000) (disch := omega) only [gs, gs2, gs3, ↓reduceIte, Nat.reduceEqDiff, Nat.mul_one, Nat.add_zero, Nat.zero_add, Nat.zero_mul, Int.toNat_natCast, Int.reduceToNat, Nat.reduceMul, Nat.reduceAdd, decide_true, decide_false, Bool.not_true, Bool.not_false, true_and, and_true, List.map_cons, List.map_nil, List.nil_append, List.cons_append, List.append_nil, Option.map_some, Option.bind_some, List.getElem?_cons_zero, List.getElem?_cons_succ, Bool.false_eq_true, not_true_eq_false, not_false_eq_true, List.contains_cons, List.contains_nil, Nat.reduceBEq, Bool.true_or, Bool.false_or, Bool.or_true, List.set_cons_zero, List.set_cons_succ, List.length_cons, List.length_nil, isLd, Bool.true_and, Bool.false_and, Bool.and_true, Bool.and_false, hr0]
  refine spec_l02Mod_ok ⟨by omega, by omega⟩ ?_
  simp (maxSteps := 300000) (disch := omega) only [gs, gs2, gs3, ↓reduceIte, Nat.reduceEqDiff, Nat.mul_one, Nat.add_zero, Nat.zero_add, Nat.zero_mul, Int.toNat_natCast, Int.reduceToNat, Nat.reduceMul, Nat.reduceAdd, decide_true, decide_false, Bool.not_true, Bool.not_false, true_and, and_true, List.map_cons, List.map_nil, List.nil_append, List.cons_append, List.append_nil, Option.map_some, Option.bind_some, List.getElem?_cons_zero, List.getElem?_cons_succ, Bool.false_eq_true, not_true_eq_false, not_false_eq_true, List.contains_cons, List.contains_nil, Nat.reduceBEq, Bool.true_or, Bool.false_or, Bool.or_true, List.set_cons_zero, List.set_cons_succ, List.length_cons, List.length_nil, isLd, Bool.true_and, Bool.false_and, Bool.and_true, Bool.and_false]
  rw [show ((998244353 : Int) - 2) = ((998244351 : Nat) : Int) from rfl]
  refine spec_l02Power_ok (n := 998244351) ⟨by omega, by omega⟩ ⟨by omega, by omega⟩ (by omega) ?_
  have hi0 := pw_rng (a := 1755654) (p := 998244353) (by omega) 998244351
  have hinv := hasInv_3 1755654 (by omega) (by omega)
  have e3 : invF 1755654 998244353 = pw 1755654 998244353 998244351 := rfl
  rw [e3] at hinv
  have hp1 : (1000000007 : Int) * pw 1755654 998244353 998244351 % 998244353 = 1 := by
    rw [← mul_mod_l, show (1000000007 : Int) % 998244353 = 1755654 by decide]; exact hinv
  have hcrt := crt (D := D) (p := 1000000007) (q := 998244353) (r := pw 1755654 998244353 998244351) (by omega) (by omega) hp1 hD.1 (rows_bd hD)
  generalize pw 1755654 998244353 998244351 = r at *
  generalize D % 1000000007 = a at *
  have z1 := Int.emod_nonneg (D % 998244353 - a) (show (998244353 : Int) ≠ 0 by omega)
  have z2 := Int.emod_lt_of_pos (D % 998244353 - a) (show (0 : Int) < 998244353 by omega)
  generalize (D % 998244353 - a) % 998244353 = z at *
  have hmm := mulB (a := z) (b := r) (A := 2 ^ 30) (B := 2 ^ 30) (by omega) (by omega)
  have hnn : 0 ≤ z * r := Int.mul_nonneg z1 hi0.1
  have w1 := w64 (z * r) (by omega) (by omega)
  have hrm : (z * r).tmod 998244353 = z * r % 998244353 := Int.tmod_eq_emod_of_nonneg hnn
  have y1 := Int.emod_nonneg (z * r) (show (998244353 : Int) ≠ 0 by omega)
  have y2 := Int.emod_lt_of_pos (z * r) (show (0 : Int) < 998244353 by omega)
  simp (maxSteps := 300000) (disch := omega) only [gs, gs2, gs3, ↓reduceIte, Nat.reduceEqDiff, Nat.mul_one, Nat.add_zero, Nat.zero_add, Nat.zero_mul, Int.toNat_natCast, Int.reduceToNat, Nat.reduceMul, Nat.reduceAdd, decide_true, decide_false, Bool.not_true, Bool.not_false, true_and, and_true, List.map_cons, List.map_nil, List.nil_append, List.cons_append, List.append_nil, Option.map_some, Option.bind_some, List.getElem?_cons_zero, List.getElem?_cons_succ, Bool.false_eq_true, not_true_eq_false, not_false_eq_true, List.contains_cons, List.contains_nil, Nat.reduceBEq, Bool.true_or, Bool.false_or, Bool.or_true, List.set_cons_zero, List.set_cons_succ, List.length_cons, List.length_nil, isLd, Bool.true_and, Bool.false_and, Bool.and_true, Bool.and_false, w1, fun x : Int => bin_rem .i64 x 998244353 (by omega), hrm]
  rw [hcrt]
  exact hk
theorem keep0 {N : Gra} (hn : GraOk N) : (keep N.n.toNat [0]).length ≤ 11 := by
  have hn1 := hn.1
  have := keep_lt (n := N.n.toNat) (om := [0]) ⟨0, by simp, by omega, by omega⟩
  omega
/-- the sum of the cells of a row at some places. -/
def smP (P : Nat → Bool) (g : Nat → Int) (n : Nat) : Int := sm (fun j => if P j then g j else 0) n
theorem smP_lin (P : Nat → Bool) (g h : Nat → Int) (a c : Int) (n : Nat) : smP P (fun j => a * g j - c * h j) n = a * smP P g n - c * smP P h n := by
  unfold smP
  rw [← sm_lin2]
  refine sm_congr n fun j _ => ?_
  split
  · rfl
  · simp
theorem smP_head (P : Nat → Bool) (g : Nat → Int) (n : Nat) : smP P g (n + 1) = (if P 0 then g 0 else 0) + smP (fun j => P (j + 1)) (fun j => g (j + 1)) n := by
  unfold smP; rw [sm_head]
/-- some row of each choice of places outweighs the rest. -/
def Good (n : Nat) (f : Int → Int → Int) : Prop := Dom n f ∧ ∀ P : Nat → Bool, (∃ i, i < n ∧ P i = true) → ∃ i, i < n ∧ P i = true ∧ 0 < smP P (fun j => f i j) n
theorem Dom.part {n : Nat} {f : Int → Int → Int} (h : Dom n f) {P : Nat → Bool} {i : Nat} (hi : i < n) (hp : P i = true) : sm (fun j => f i j) n ≤ smP P (fun j => f i j) n :=
  sm_le n fun j hj => by
    by_cases e : P j = true
    · rw [if_pos e]; exact Int.le_refl _
    · rw [if_neg e]
      exact (h i hi).1 j hj (fun x => e (by rw [x]; exact hp))
theorem Good.schur {n : Nat} {f : Int → Int → Int} (h : Good (n + 1) f) : 0 < f 0 0 ∧ Good n (Gh.schur f) := by
  obtain ⟨hD, hG⟩ := h
  have hpos : 0 < f 0 0 := by
    obtain ⟨i, hi, hp, hs⟩ := hG (fun j => decide (j = 0)) ⟨0, by omega, by simp⟩
    simp at hp
    subst hp
    rw [smP_head] at hs
    have e : smP (fun j => decide (j + 1 = 0)) (fun j => f ((0 : Nat) : Int) ((j + 1 : Nat) : Int)) n = 0 := by
      unfold smP
      exact (sm_congr n fun j _ => by simp).trans (sm_zero n)
    rw [e] at hs
    simpa using hs
  refine ⟨hpos, hD.schur, fun P hP => ?_⟩
  obtain ⟨i0, hi0, hp0⟩ := hP
  have hZ : ∀ Q : Nat → Bool, -f 0 0 ≤ smP Q (fun j => f 0 ((j : Int) + 1)) n := fun Q => by
    have h1 := hD.part (P := fun j => match j with | 0 => true | j + 1 => Q j) (i := 0) (by omega) rfl
    have h2 := (hD 0 (by omega)).2
    rw [smP_head] at h1
    simp only [if_true, Int.natCast_zero] at h1
    have e : smP (fun j => Q j) (fun j => f 0 ((j + 1 : Nat) : Int)) n = smP Q (fun j => f 0 ((j : Int) + 1)) n := rfl
    rw [e] at h1
    simp only [Int.natCast_zero] at h2
    omega
  have hB : ∀ i : Nat, smP P (fun j => Gh.schur f i j) n = f 0 0 * smP P (fun j => f ((i : Int) + 1) ((j : Int) + 1)) n - f ((i : Int) + 1) 0 * smP P (fun j => f 0 ((j : Int) + 1)) n := fun i => by
    rw [← smP_lin]; rfl
  have hc : ∀ i : Nat, i < n → f ((i : Int) + 1) 0 ≤ 0 := fun i hi => (hD (i + 1) (by omega)).1 0 (by omega) (by omega)
  -- the places with the first one
  obtain ⟨k, hk, hkp, hks⟩ := hG (fun j => match j with | 0 => true | j + 1 => P j) ⟨0, by omega, rfl⟩
  rw [smP_head] at hks
  simp only [if_true] at hks
  have eS : ∀ u : Int, smP (fun j => P j) (fun j => f u ((j + 1 : Nat) : Int)) n = smP P (fun j => f u ((j : Int) + 1)) n := fun u => rfl
  rw [eS] at hks
  cases k with
  | zero =>
    obtain ⟨m, hm, hmp, hms⟩ := hG (fun j => match j with | 0 => false | j + 1 => P j) ⟨i0 + 1, by omega, hp0⟩
    cases m with
    | zero => cases hmp
    | succ i =>
      refine ⟨i, by omega, hmp, ?_⟩
      rw [smP_head] at hms
      simp only [Bool.false_eq_true, if_false, Int.zero_add] at hms
      rw [eS] at hms
      have hd := hD.part (P := fun j => match j with | 0 => true | j + 1 => P j) (i := i + 1) (by omega) hmp
      have hd2 := (hD (i + 1) (by omega)).2
      rw [smP_head] at hd
      simp only [if_true] at hd
      rw [eS] at hd
      rw [hB]
      have hci := hc i (by omega)
      have hZi := hZ P
      simp only [Int.natCast_add, Int.natCast_one, Int.natCast_zero] at hms hd hks hd2
      generalize smP P (fun j => f ((i : Int) + 1) ((j : Int) + 1)) n = S at *
      generalize smP P (fun j => f 0 ((j : Int) + 1)) n = Z at *
      generalize f ((i : Int) + 1) 0 = c at *
      generalize f 0 0 = a at *
      have k1 : a * (-c) ≤ a * S := Int.mul_le_mul_of_nonneg_left (by omega) (by omega)
      by_cases e : S + c = 0
      · have k2 : 0 < (-c) * (Z + a) := Int.mul_pos (by omega) (by omega)
        have e2 : S = -c := by omega
        rw [e2, Int.mul_neg]
        rw [Int.mul_add, Int.neg_mul, Int.neg_mul, Int.mul_comm c a] at k2
        omega
      · have k2 : (-c) * (-a) ≤ (-c) * Z := Int.mul_le_mul_of_nonneg_left (by omega) (by omega)
        have k3 : 0 < a * (S + c) := Int.mul_pos (by omega) (by omega)
        rw [Int.mul_add] at k3
        rw [Int.neg_mul_neg, Int.neg_mul, Int.mul_comm c a] at k2
        omega
  | succ i =>
    refine ⟨i, by omega, hkp, ?_⟩
    rw [hB]
    have hci := hc i (by omega)
    have hZi := hZ P
    simp only [Int.natCast_add, Int.natCast_one, Int.natCast_zero] at hks
    generalize smP P (fun j => f ((i : Int) + 1) ((j : Int) + 1)) n = S at *
    generalize smP P (fun j => f 0 ((j : Int) + 1)) n = Z at *
    generalize f ((i : Int) + 1) 0 = c at *
    generalize f 0 0 = a at *
    have k2 : (-c) * (-a) ≤ (-c) * Z := Int.mul_le_mul_of_nonneg_left (by omega) (by omega)
    have k3 : 0 < a * (S + c) := Int.mul_pos (by omega) (by omega)
    rw [Int.mul_add] at k3
    rw [Int.neg_mul_neg, Int.neg_mul, Int.mul_comm c a] at k2
    omega
theorem Good.pos : ∀ (n : Nat) (f : Int → Int → Int), Good n f → 0 < dt n f
  | 0, f, _ => (by decide : (0 : Int) < 1)
  | n + 1, f, h => by
    obtain ⟨ha, hs⟩ := h.schur
    have ih := Good.pos n (Gh.schur f) hs
    have e := dt_schur n f
    have hp := pow_pos' ha n
    have : 0 < f 0 0 ^ n * dt (n + 1) f := by rw [e]; exact Int.mul_pos ha ih
    exact Int.pos_of_mul_pos_right this hp
/-- multiples of other rows are added to a row. -/
theorem dt_addm {n : Nat} (f : Int → Int → Int) {r : Nat} (hr : r < n) (P : Nat → Bool) : ∀ m, m ≤ n → dt n (setr f r (fun j => f r j + sm (fun s => if P s ∧ s ≠ r then f s j else 0) m)) = dt n f
  | 0, _ => by
    refine dt_congr n fun i j _ _ => ?_
    unfold setr
    by_cases e : (i : Int) = r
    · rw [if_pos e, e]; simp [sm]
    · rw [if_neg e]
  | m + 1, hm => by
    rw [← dt_addm f hr P m (by omega)]
    by_cases h : P m = true ∧ m ≠ r
    · rw [← dt_addr (setr f r (fun j => f r j + sm (fun s => if P s ∧ s ≠ r then f s j else 0) m)) (r := m) (s := r) (by omega) hr h.2 1]
      refine dt_congr n fun i j _ _ => ?_
      unfold setr
      by_cases e : (i : Int) = r
      · rw [if_pos e, if_pos e, if_neg (by omega), if_pos rfl]
        show f r j + (sm _ m + (if P m = true ∧ m ≠ r then f m j else 0)) = 1 * f m j + (f r j + sm _ m)
        rw [if_pos h]; omega
      · rw [if_neg e, if_neg e, if_neg e]
    · refine dt_congr n fun i j _ _ => ?_
      unfold setr
      by_cases e : (i : Int) = r
      · rw [if_pos e, if_pos e]
        show f r j + (sm _ m + (if P m = true ∧ m ≠ r then f m j else 0)) = f r j + sm _ m
        rw [if_neg h]; omega
      · rw [if_neg e, if_neg e]
theorem dt_zrow {n : Nat} {f : Int → Int → Int} {r : Nat} (hr : r < n) (h : ∀ j : Nat, j < n → f r j = 0) : dt n f = 0 := by
  have e := dt_scale f (r := r) hr 0
  rw [Int.zero_mul] at e
  rw [← e]
  refine dt_congr n fun i j hi hj => ?_
  unfold setr
  by_cases c : (i : Int) = r
  · rw [if_pos c, c, h j hj]; simp
  · rw [if_neg c]
/-- the rows at some places sum to nothing. -/
theorem dt_dep {n : Nat} {f : Int → Int → Int} {P : Nat → Bool} {r : Nat} (hr : r < n) (hp : P r = true) (h : ∀ j : Nat, j < n → smP P (fun s => f s j) n = 0) : dt n f = 0 := by
  rw [← dt_addm f hr P n (Nat.le_refl _)]
  refine dt_zrow hr fun j hj => ?_
  unfold setr
  rw [if_pos rfl]
  have e : ∀ m, sm (fun s => if P s ∧ s ≠ r then f s j else 0) m + (if r < m then f r j else 0) = smP P (fun s => f s j) m := by
    intro m
    induction m with
    | zero => simp [sm, smP]
    | succ m ih =>
      show sm _ m + (if P m ∧ m ≠ r then f m j else 0) + _ = smP P (fun s => f s j) m + (if P m then f m j else 0)
      rw [← ih]
      by_cases c1 : m = r
      · subst c1
        rw [if_neg (by omega), if_pos (by omega), if_neg (by omega), if_pos hp]; try omega
      · by_cases c2 : P m = true
        · rw [if_pos ⟨c2, c1⟩, if_pos c2]
          by_cases c3 : r < m
          · rw [if_pos c3, if_pos (by omega)]; omega
          · rw [if_neg c3, if_neg (by omega)]; omega
        · rw [if_neg (fun x => c2 x.1), if_neg c2]
          by_cases c3 : r < m
          · rw [if_pos c3, if_pos (by omega)]; try omega
          · rw [if_neg c3, if_neg (by omega)]; try omega
  have := e n
  rw [if_pos hr, h j hj] at this
  omega
theorem keep0_eq : ∀ m : Nat, keep (m + 1) [0] = (List.range m).map fun i : Nat => (i : Int) + 1
  | 0 => by rw [keep_succ]; simp [keep, iota]
  | m + 1 => by
    rw [keep_succ, keep0_eq m, if_neg (by simp; omega), List.range_succ, List.map_append]
    simp
theorem sumN_sm (g : Int → Int) : ∀ n : Nat, sumN g n = sm (fun i => g i) n
  | 0 => rfl
  | n + 1 => by show sumN g n + g n = _; rw [sumN_sm g n]; rfl
theorem lap_le {N : Gra} (hn : GraOk N) {i j : Int} (hij : i ≠ j) {m : Nat} (hm : ((N.edges.getD m z3).1 = i ∧ (N.edges.getD m z3).2.1 = j) ∨ ((N.edges.getD m z3).1 = j ∧ (N.edges.getD m z3).2.1 = i)) : ∀ k : Nat, k ≤ N.edges.length → m < k → lapK N.edges k i j < 0
  | 0, _, h => by omega
  | k + 1, hk, h => by
    obtain ⟨o1, o2, o3, o4⟩ := hn.2.1 k (by omega)
    rw [lapK_step hn.okE (by omega)]
    by_cases e : m = k
    · subst e
      have ih := lap_off hn hij m (by omega)
      (repeat' split) <;> omega
    · have ih := lap_le hn hij hm k (by omega) (by omega)
      (repeat' split) <;> omega
/-- the node that stands for a node lies where the node lies, if no edge leaves. -/
theorem cK_in {N : Gra} {S : Int → Prop} (hS : ∀ k, k < N.edges.length → (S (N.edges.getD k z3).1 ↔ S (N.edges.getD k z3).2.1)) {b : Int → Int} (hb : ∀ v, S v → S (b v)) : ∀ k : Nat, k ≤ N.edges.length → ∀ v, S v → S (cK N.edges b k v)
  | 0, _, v, hv => hb v hv
  | k + 1, hk, v, hv => by
    have ih := cK_in hS hb k (by omega)
    have he := hS k (by omega)
    show S (cMin (cK N.edges b k) (N.edges.getD k z3) v)
    unfold cMin
    have key : ∀ x y : Int, S x → S y → S (min x y) := fun x y hx hy => by
      rw [Int.min_def]; split
      · exact hx
      · exact hy
    split
    · rename_i h; rw [h] at hv
      exact key _ _ (ih _ (he.2 hv)) (ih _ hv)
    · split
      · rename_i h; rw [h] at hv
        exact key _ _ (ih _ hv) (ih _ (he.1 hv))
      · exact ih v hv
theorem cR_in {N : Gra} {S : Int → Prop} (hS : ∀ k, k < N.edges.length → (S (N.edges.getD k z3).1 ↔ S (N.edges.getD k z3).2.1)) : ∀ r : Nat, ∀ v, S v → S (cR N.edges r v)
  | 0, v, hv => hv
  | r + 1, v, hv => cK_in hS (cR_in hS r) _ (Nat.le_refl _) v hv
theorem cK_le2 {es : List T3} {b : Int → Int} (hb : ∀ v, b v ≤ v) : ∀ (k : Nat) (v : Int), cK es b k v ≤ b v
  | 0, v => Int.le_refl _
  | k + 1, v => by
    have ih := cK_le2 (es := es) hb k v
    show cMin (cK es b k) (es.getD k z3) v ≤ _
    unfold cMin
    split
    · rename_i h; rw [h] at ih ⊢; omega
    · split
      · rename_i h; rw [h] at ih ⊢; omega
      · exact ih
theorem cR_le (es : List T3) : ∀ (r : Nat) (v : Int), cR es r v ≤ v
  | 0, v => Int.le_refl _
  | r + 1, v => Int.le_trans (cK_le2 (cR_le es r) _ v) (cR_le es r v)
theorem node_shift (S : Nat → Bool) (g : Nat → Int) (h0 : S 0 = false) (m : Nat) : sm (fun v => if S v = true then g v else 0) (m + 1) = smP (fun i => S (i + 1)) (fun i => g (i + 1)) m := by
  rw [sm_head, h0]; simp [smP]
theorem sub0 {m : Nat} {L : Int → Int → Int} {i j : Nat} (hi : i < m) (hj : j < m) : sub (keep (m + 1) [0]) L i j = L ((i : Int) + 1) ((j : Int) + 1) := by
  unfold sub
  rw [keep0_eq, Int.toNat_natCast, Int.toNat_natCast]
  simp [List.getD, hi, hj]
def shP (P : Nat → Bool) : Nat → Bool
  | 0 => false
  | j + 1 => P j
theorem conn_iff {N : Gra} (hn : GraOk N) : (∀ v : Int, 0 ≤ v → v < N.n → cR N.edges N.n.toNat v = 0) ↔ dt (keep N.n.toNat [0]).length (sub (keep N.n.toNat [0]) (lapK N.edges N.edges.length)) ≠ 0 := by
  have hn1 := hn.1
  have hin : ∀ i, i < N.edges.length → 0 ≤ (N.edges.getD i z3).1 ∧ (N.edges.getD i z3).1 < (N.n.toNat : Nat) ∧ 0 ≤ (N.edges.getD i z3).2.1 ∧ (N.edges.getD i z3).2.1 < (N.n.toNat : Nat) := fun i hi => by
    have := hn.2.1 i hi; unfold okEdge at this; omega
  obtain ⟨m, hm⟩ : ∃ m, N.n.toNat = m + 1 := ⟨N.n.toNat - 1, by omega⟩
  have hlen : (keep N.n.toNat [0]).length = m := by rw [hm, keep0_eq]; simp
  have hD := minor_dom hn [0]
  rw [hlen] at hD ⊢
  generalize hL : lapK N.edges N.edges.length = L at *
  have hsub : ∀ i j : Nat, i < m → j < m → sub (keep N.n.toNat [0]) L i j = L ((i : Int) + 1) ((j : Int) + 1) := fun i j hi hj => by rw [hm]; exact sub0 hi hj
  constructor
  · intro hall
    have hG : Good m (sub (keep N.n.toNat [0]) L) := by
      refine ⟨hD, fun P hP => Classical.byContradiction fun hno => ?_⟩
      obtain ⟨i0, hi0, hp0⟩ := hP
      let S : Int → Prop := fun v => 1 ≤ v ∧ v < N.n ∧ P (v - 1).toNat = true
      have hleave : ∀ u w : Int, S u → ¬ S w → 0 ≤ w → w < N.n → L u w < 0 → False := fun u w hu hw h0 h1 hlt => by
        refine hno ⟨(u - 1).toNat, by have := hu.1; have := hu.2.1; omega, hu.2.2, ?_⟩
        obtain ⟨i, rfl⟩ : ∃ i : Nat, u = (i : Int) + 1 := ⟨(u - 1).toNat, by have := hu.1; omega⟩
        have hi : i < m := by have := hu.2.1; omega
        rw [show ((i : Int) + 1 - 1).toNat = i by omega]
        have hrow := lap_row hn ((i : Int) + 1) _ (Nat.le_refl _)
        rw [hL, sumN_sm, hm] at hrow
        have e1 : smP P (fun j => sub (keep N.n.toNat [0]) L i j) m = sm (fun v => if shP P v = true then L ((i : Int) + 1) v else 0) (m + 1) := by
          rw [node_shift (shP P) (fun v => L ((i : Int) + 1) v) rfl]
          unfold smP
          refine sm_congr m fun j hj => ?_
          show (if P j = true then sub (keep N.n.toNat [0]) L i j else 0) = (if P j = true then L ((i : Int) + 1) ((j + 1 : Nat) : Int) else 0)
          rw [hsub i j hi hj]; rfl
        rw [e1]
        -- what is left out holds w
        have e2 : sm (fun v => if shP P v = true then L ((i : Int) + 1) v else 0) (m + 1) = sm (fun v : Nat => L ((i : Int) + 1) v) (m + 1) - sm (fun v => if shP P v = true then 0 else L ((i : Int) + 1) v) (m + 1) := by
          have key : ∀ t, sm (fun v => if shP P v = true then L ((i : Int) + 1) v else 0) t = sm (fun v : Nat => L ((i : Int) + 1) v) t - sm (fun v => if shP P v = true then 0 else L ((i : Int) + 1) v) t := by
            intro t
            induction t with
            | zero => rfl
            | succ t ih =>
              show sm _ t + (if shP P t = true then L ((i : Int) + 1) t else 0) = (sm _ t + L ((i : Int) + 1) t) - (sm _ t + (if shP P t = true then 0 else L ((i : Int) + 1) t))
              rw [ih]
              split <;> omega
          exact key _
        rw [e2, hrow]
        have e3 := sm_le (g := fun v => if shP P v = true then 0 else L ((i : Int) + 1) v) (h := fun v => if v = w.toNat then L ((i : Int) + 1) w else 0) (m + 1) fun v hv => by
          by_cases ev : v = w.toNat
          · have hpw : ¬ shP P v = true := fun x => by
              cases v with
              | zero => cases x
              | succ j => exact hw ⟨by omega, h1, by rw [show (w - 1).toNat = j by omega]; exact x⟩
            simp only [if_neg hpw, if_pos ev]
            rw [ev, Int.toNat_of_nonneg h0]; exact Int.le_refl _
          · simp only [if_neg ev]
            split
            · exact Int.le_refl _
            · rename_i hpv
              by_cases e5 : (v : Int) = (i : Int) + 1
              · exfalso
                have : v = i + 1 := by omega
                subst this
                have hpi := hu.2.2
                rw [show ((i : Int) + 1 - 1).toNat = i by omega] at hpi
                exact hpv hpi
              · have := lap_off hn (i := (i : Int) + 1) (j := v) (fun x => e5 x.symm) _ (Nat.le_refl _)
                rw [hL] at this; exact this
        rw [sm_one (i := w.toNat) (fun j hj => if_neg hj) (m + 1), if_pos (by omega), if_pos rfl] at e3
        omega
      have hclosed : ∀ k, k < N.edges.length → (S (N.edges.getD k z3).1 ↔ S (N.edges.getD k z3).2.1) := fun k hk => by
        obtain ⟨o1, o2, o3, o4⟩ := hn.2.1 k hk
        have l1 := lap_le hn (i := (N.edges.getD k z3).1) (j := (N.edges.getD k z3).2.1) (by omega) (m := k) (.inl ⟨rfl, rfl⟩) _ (Nat.le_refl _) hk
        have l2 := lap_le hn (i := (N.edges.getD k z3).2.1) (j := (N.edges.getD k z3).1) (by omega) (m := k) (.inr ⟨rfl, rfl⟩) _ (Nat.le_refl _) hk
        rw [hL] at l1 l2
        constructor
        · intro h1
          exact Classical.byContradiction fun h2 => hleave _ _ h1 h2 (by omega) (by omega) l1
        · intro h1
          exact Classical.byContradiction fun h2 => hleave _ _ h1 h2 (by omega) (by omega) l2
      have h1 : S ((i0 : Int) + 1) := ⟨by omega, by omega, by rw [show ((i0 : Int) + 1 - 1).toNat = i0 by omega]; exact hp0⟩
      have h2 := cR_in hclosed N.n.toNat _ h1
      rw [hall _ (by omega) (by omega)] at h2
      have := h2.1; omega
    have := Good.pos m _ hG
    omega
  · intro hne v h0 h1
    refine Classical.byContradiction fun hv => hne ?_
    have hc0 : cR N.edges N.n.toNat 0 = 0 := by
      have a1 := cR_le N.edges N.n.toNat 0
      have a2 : 0 ≤ cR N.edges N.n.toNat 0 := by
        rw [show N.n.toNat = (N.n.toNat - 1) + 1 by omega]
        exact (cR_bd N.edges hin (N.n.toNat - 1) N.edges.length (Nat.le_refl _) 0 (by omega) (by omega)).1
      omega
    have hv1 : 1 ≤ v := by
      apply Classical.byContradiction; intro hx
      have : v = 0 := by omega
      rw [this] at hv; exact hv hc0
    have hcol : ∀ x : Int, ∀ k : Nat, k ≤ N.edges.length → sm (fun u : Nat => if decide (cR N.edges N.n.toNat u ≠ 0) = true then lapK N.edges k u x else 0) (m + 1) = 0 := by
      intro x k
      induction k with
      | zero =>
        intro _
        exact (sm_congr (m + 1) fun u _ => by simp only [lapK]; split <;> rfl).trans (sm_zero _)
      | succ k ih =>
        intro hk
        have ih := ih (by omega)
        obtain ⟨o1, o2, o3, o4⟩ := hn.2.1 k (by omega)
        have hpe := parts_edge (es := N.edges) (n := N.n.toNat) hin (i := k) (by omega)
        have hstep := fun i => lapK_step hn.okE (show k < N.edges.length by omega) i x
        have e : sm (fun u : Nat => if decide (cR N.edges N.n.toNat u ≠ 0) = true then lapK N.edges (k + 1) u x else 0) (m + 1) = sm (fun u : Nat => if decide (cR N.edges N.n.toNat u ≠ 0) = true then lapK N.edges k u x else 0) (m + 1) +
            (sm (fun u => if u = (N.edges.getD k z3).1.toNat then (if decide (cR N.edges N.n.toNat (N.edges.getD k z3).1 ≠ 0) = true then (if x = (N.edges.getD k z3).1 then (N.edges.getD k z3).2.2 else 0) + (if x = (N.edges.getD k z3).2.1 then -(N.edges.getD k z3).2.2 else 0) else 0) else 0) (m + 1) +
            sm (fun u => if u = (N.edges.getD k z3).2.1.toNat then (if decide (cR N.edges N.n.toNat (N.edges.getD k z3).2.1 ≠ 0) = true then (if x = (N.edges.getD k z3).2.1 then (N.edges.getD k z3).2.2 else 0) + (if x = (N.edges.getD k z3).1 then -(N.edges.getD k z3).2.2 else 0) else 0) else 0) (m + 1)) := by
          have key : ∀ t, sm (fun u : Nat => if decide (cR N.edges N.n.toNat u ≠ 0) = true then lapK N.edges (k + 1) u x else 0) t = sm (fun u : Nat => if decide (cR N.edges N.n.toNat u ≠ 0) = true then lapK N.edges k u x else 0) t +
            (sm (fun u => if u = (N.edges.getD k z3).1.toNat then (if decide (cR N.edges N.n.toNat (N.edges.getD k z3).1 ≠ 0) = true then (if x = (N.edges.getD k z3).1 then (N.edges.getD k z3).2.2 else 0) + (if x = (N.edges.getD k z3).2.1 then -(N.edges.getD k z3).2.2 else 0) else 0) else 0) t +
            sm (fun u => if u = (N.edges.getD k z3).2.1.toNat then (if decide (cR N.edges N.n.toNat (N.edges.getD k z3).2.1 ≠ 0) = true then (if x = (N.edges.getD k z3).2.1 then (N.edges.getD k z3).2.2 else 0) + (if x = (N.edges.getD k z3).1 then -(N.edges.getD k z3).2.2 else 0) else 0) else 0) t) := by
            intro t
            induction t with
            | zero => rfl
            | succ t iht =>
              show sm _ t + _ = (sm _ t + _) + ((sm _ t + _) + (sm _ t + _))
              rw [iht]
              dsimp only
              rw [hstep]
              have c1 : (t = (N.edges.getD k z3).1.toNat) ↔ ((t : Int) = (N.edges.getD k z3).1) := by omega
              have c2 : (t = (N.edges.getD k z3).2.1.toNat) ↔ ((t : Int) = (N.edges.getD k z3).2.1) := by omega
              simp only [c1, c2]
              by_cases d1 : (t : Int) = (N.edges.getD k z3).1
              · by_cases d2 : (t : Int) = (N.edges.getD k z3).2.1
                · omega
                · simp only [if_pos d1, if_neg d2, ← d1]
                  by_cases d3 : decide (cR N.edges N.n.toNat (t : Int) ≠ 0) = true
                  · simp only [if_pos d3]; omega
                  · simp only [if_neg d3]; omega
              · by_cases d2 : (t : Int) = (N.edges.getD k z3).2.1
                · simp only [if_neg d1, if_pos d2, ← d2]
                  by_cases d3 : decide (cR N.edges N.n.toNat (t : Int) ≠ 0) = true
                  · simp only [if_pos d3]; omega
                  · simp only [if_neg d3]; omega
                · simp only [if_neg d1, if_neg d2]
                  by_cases d3 : decide (cR N.edges N.n.toNat (t : Int) ≠ 0) = true
                  · simp only [if_pos d3]; omega
                  · simp only [if_neg d3]; omega
          exact key _
        rw [e, ih, sm_one (i := (N.edges.getD k z3).1.toNat) (fun j hj => if_neg hj), sm_one (i := (N.edges.getD k z3).2.1.toNat) (fun j hj => if_neg hj), if_pos (show (N.edges.getD k z3).1.toNat < m + 1 by omega), if_pos (show (N.edges.getD k z3).2.1.toNat < m + 1 by omega)]
        simp only [if_true]
        rw [hpe]
        by_cases d3 : decide (cR N.edges N.n.toNat (N.edges.getD k z3).2.1 ≠ 0) = true
        · simp only [if_pos d3]
          (repeat' split) <;> omega
        · simp only [if_neg d3]; omega
    refine dt_dep (P := fun i => decide (cR N.edges N.n.toNat ((i : Int) + 1) ≠ 0)) (r := (v - 1).toNat) (by omega) (by
      rw [show (((v - 1).toNat : Nat) : Int) + 1 = v by omega]; simpa using hv) fun j hj => ?_
    have h := hcol ((j : Int) + 1) _ (Nat.le_refl _)
    rw [hL, node_shift (fun u => decide (cR N.edges N.n.toNat (u : Nat) ≠ 0)) (fun u => L u ((j : Int) + 1)) (by simpa using hc0)] at h
    refine Eq.trans ?_ h
    unfold smP
    refine sm_congr m fun i hi => ?_
    show (if decide (cR N.edges N.n.toNat ((i : Int) + 1) ≠ 0) = true then sub (keep N.n.toNat [0]) L i j else 0) = (if decide (cR N.edges N.n.toNat ((i + 1 : Nat) : Int) ≠ 0) = true then L ((i + 1 : Nat) : Int) ((j : Int) + 1) else 0)
    rw [hsub i j hi hj]; rfl
theorem gcd_step {a b : Int} (ha : 0 ≤ a) (hb : 0 < b) : Nat.gcd b.toNat (a % b).toNat = Nat.gcd a.toNat b.toNat := by
  have e : (a % b).toNat = a.toNat % b.toNat := by
    obtain ⟨x, rfl⟩ : ∃ x : Nat, a = x := ⟨a.toNat, by omega⟩
    obtain ⟨y, rfl⟩ : ∃ y : Nat, b = y := ⟨b.toNat, by omega⟩
    rfl
  rw [e, Nat.gcd_comm, ← Nat.gcd_rec, Nat.gcd_comm]
theorem impl_gcd_ok {a b : Int} (ha : 0 ≤ a ∧ a < 2 ^ 62) (hb : 0 ≤ b ∧ b < 2 ^ 62) {G : GH} {K : Value → GH → Prop} (hk : K (.int .i64 (Nat.gcd a.toNat b.toNat : Nat)) G) : GC Try.prog 182 [.int .i64 a, .int .i64 b] G K := by
  refine c_impl_gcd_i (by simp) ?_
  simp (maxSteps := 300000) (disch := omega) only [gs, gs2, gs3, ↓reduceIte, Nat.reduceEqDiff, Nat.mul_one, Nat.add_zero, Nat.zero_add, Nat.zero_mul, Int.toNat_natCast, Int.reduceToNat, Nat.reduceMul, Nat.reduceAdd, decide_true, decide_false, Bool.not_true, Bool.not_false, true_and, and_true, List.map_cons, List.map_nil, List.nil_append, List.cons_append, List.append_nil, Option.map_some, Option.bind_some, List.getElem?_cons_zero, List.getElem?_cons_succ, Bool.false_eq_true, not_true_eq_false, not_false_eq_true, List.contains_cons, List.contains_nil, Nat.reduceBEq, Bool.true_or, Bool.false_or, Bool.or_true, List.set_cons_zero, List.set_cons_succ, List.length_cons, List.length_nil, isLd, Bool.true_and, Bool.false_and, Bool.and_true, Bool.and_false]
  refine gLoop_intro (fun m T G' => ∃ x y : Int, T 0 = .int .i64 x ∧ T 1 = .int .i64 y ∧ m = y.toNat ∧ (0 ≤ x ∧ x < 2 ^ 62) ∧ (0 ≤ y ∧ y < 2 ^ 62) ∧ G = G' ∧ Nat.gcd x.toNat y.toNat = Nat.gcd a.toNat b.toNat)
    b.toNat ⟨a, b, by simp (maxSteps := 300000) (disch := omega) only [gs, gs2, gs3, ↓reduceIte, Nat.reduceEqDiff, Nat.mul_one, Nat.add_zero, Nat.zero_add, Nat.zero_mul, Int.toNat_natCast, Int.reduceToNat, Nat.reduceMul, Nat.reduceAdd, decide_true, decide_false, Bool.not_true, Bool.not_false, true_and, and_true, List.map_cons, List.map_nil, List.nil_append, List.cons_append, List.append_nil, Option.map_some, Option.bind_some, List.getElem?_cons_zero, List.getElem?_cons_succ, Bool.false_eq_true, not_true_eq_false, not_false_eq_true, List.contains_cons, List.contains_nil, Nat.reduceBEq, Bool.true_or, Bool.false_or, Bool.or_true, List.set_cons_zero, List.set_cons_succ, List.length_cons, List.length_nil, isLd, Bool.true_and, Bool.false_and, Bool.and_true, Bool.and_false], by simp (maxSteps := 300000) (disch := omega) only [gs, gs2, gs3, ↓reduceIte, Nat.reduceEqDiff, Nat.mul_one, Nat.add_zero, Nat.zero_add, Nat.zero_mul, Int.toNat_natCast, Int.reduceToNat, Nat.reduceMul, Nat.reduceAdd, decide_true, decide_false, Bool.not_true, Bool.not_false, true_and, and_true, List.map_cons, List.map_nil, List.nil_append, List.cons_append, List.append_nil, Option.map_some, Option.bind_some, List.getElem?_cons_zero, List.getElem?_cons_succ, Bool.false_eq_true, not_true_eq_false, not_false_eq_true, List.contains_cons, List.contains_nil, Nat.reduceBEq, Bool.true_or, Bool.false_or, Bool.or_true, List.set_cons_zero, List.set_cons_succ, List.length_cons, List.length_nil, isLd, Bool.true_and, Bool.false_and, Bool.and_true, Bool.and_false], rfl, ha, hb, rfl, rfl⟩ ?_
  rintro m T G' ⟨x, y, e0, e1, rfl, hx, hy, rfl, hg⟩
  simp (maxSteps := 300000) (disch := omega) only [gs, gs2, gs3, ↓reduceIte, Nat.reduceEqDiff, Nat.mul_one, Nat.add_zero, Nat.zero_add, Nat.zero_mul, Int.toNat_natCast, Int.reduceToNat, Nat.reduceMul, Nat.reduceAdd, decide_true, decide_false, Bool.not_true, Bool.not_false, true_and, and_true, List.map_cons, List.map_nil, List.nil_append, List.cons_append, List.append_nil, Option.map_some, Option.bind_some, List.getElem?_cons_zero, List.getElem?_cons_succ, Bool.false_eq_true, not_true_eq_false, not_false_eq_true, List.contains_cons, List.contains_nil, Nat.reduceBEq, Bool.true_or, Bool.false_or, Bool.or_true, List.set_cons_zero, List.set_cons_succ, List.length_cons, List.length_nil, isLd, Bool.true_and, Bool.false_and, Bool.and_true, Bool.and_false, e0, e1]
  by_cases hy0 : y = 0
  · simp (maxSteps := 300000) (disch := omega) only [gs, gs2, gs3, ↓reduceIte, Nat.reduceEqDiff, Nat.mul_one, Nat.add_zero, Nat.zero_add, Nat.zero_mul, Int.toNat_natCast, Int.reduceToNat, Nat.reduceMul, Nat.reduceAdd, decide_true, decide_false, Bool.not_true, Bool.not_false, true_and, and_true, List.map_cons, List.map_nil, List.nil_append, List.cons_append, List.append_nil, Option.map_some, Option.bind_some, List.getElem?_cons_zero, List.getElem?_cons_succ, Bool.false_eq_true, not_true_eq_false, not_false_eq_true, List.contains_cons, List.contains_nil, Nat.reduceBEq, Bool.true_or, Bool.false_or, Bool.or_true, List.set_cons_zero, List.set_cons_succ, List.length_cons, List.length_nil, isLd, Bool.true_and, Bool.false_and, Bool.and_true, Bool.and_false, e0, e1, eq_true hy0]
    subst hy0
    have e : x = (Nat.gcd a.toNat b.toNat : Nat) := by rw [← hg]; simp; omega
    rw [e]; exact hk
  · have q1 := Int.emod_nonneg x (show y ≠ 0 by omega)
    have q2 := Int.emod_lt_of_pos x (show 0 < y by omega)
    have hrm : x.tmod y = x % y := Int.tmod_eq_emod_of_nonneg hx.1
    simp (maxSteps := 300000) (disch := omega) only [gs, gs2, gs3, ↓reduceIte, Nat.reduceEqDiff, Nat.mul_one, Nat.add_zero, Nat.zero_add, Nat.zero_mul, Int.toNat_natCast, Int.reduceToNat, Nat.reduceMul, Nat.reduceAdd, decide_true, decide_false, Bool.not_true, Bool.not_false, true_and, and_true, List.map_cons, List.map_nil, List.nil_append, List.cons_append, List.append_nil, Option.map_some, Option.bind_some, List.getElem?_cons_zero, List.getElem?_cons_succ, Bool.false_eq_true, not_true_eq_false, not_false_eq_true, List.contains_cons, List.contains_nil, Nat.reduceBEq, Bool.true_or, Bool.false_or, Bool.or_true, List.set_cons_zero, List.set_cons_succ, List.length_cons, List.length_nil, isLd, Bool.true_and, Bool.false_and, Bool.and_true, Bool.and_false, e0, e1, eq_false hy0, bin_rem .i64 x y hy0, hrm]
    exact ⟨(x % y).toNat, by omega, G, Sub.refl _, y, x % y, rfl, rfl, rfl, hy, ⟨q1, by omega⟩, rfl, by rw [gcd_step hx.1 (by omega)]; exact hg⟩
theorem spec_l16Gcd_ok {a b : Int} (ha : 0 ≤ a ∧ a < 2 ^ 62) (hb : 0 ≤ b ∧ b < 2 ^ 62) {G : GH} {K : Value → GH → Prop} (hk : K (.int .i64 (Nat.gcd a.toNat b.toNat : Nat)) G) : GC Try.prog 179 [.int .i64 a, .int .i64 b] G K := by
  refine c_spec_l16Gcd_i (by simp) ?_
  simp (maxSteps := 300000) (disch := omega) only [gs, gs2, gs3, ↓reduceIte, Nat.reduceEqDiff, Nat.mul_one, Nat.add_zero, Nat.zero_add, Nat.zero_mul, Int.toNat_natCast, Int.reduceToNat, Nat.reduceMul, Nat.reduceAdd, decide_true, decide_false, Bool.not_true, Bool.not_false, true_and, and_true, List.map_cons, List.map_nil, List.nil_append, List.cons_append, List.append_nil, Option.map_some, Option.bind_some, List.getElem?_cons_zero, List.getElem?_cons_succ, Bool.false_eq_true, not_true_eq_false, not_false_eq_true, List.contains_cons, List.contains_nil, Nat.reduceBEq, Bool.true_or, Bool.false_or, Bool.or_true, List.set_cons_zero, List.set_cons_succ, List.length_cons, List.length_nil, isLd, Bool.true_and, Bool.false_and, Bool.and_true, Bool.and_false]
  refine gLoop_intro (fun m T G' => ∃ x y : Int, T 0 = .int .i64 x ∧ T 1 = .int .i64 y ∧ m = y.toNat ∧ (0 ≤ x ∧ x < 2 ^ 62) ∧ (0 ≤ y ∧ y < 2 ^ 62) ∧ G = G' ∧ Nat.gcd x.toNat y.toNat = Nat.gcd a.toNat b.toNat)
    b.toNat ⟨a, b, by simp (maxSteps := 300000) (disch := omega) only [gs, gs2, gs3, ↓reduceIte, Nat.reduceEqDiff, Nat.mul_one, Nat.add_zero, Nat.zero_add, Nat.zero_mul, Int.toNat_natCast, Int.reduceToNat, Nat.reduceMul, Nat.reduceAdd, decide_true, decide_false, Bool.not_true, Bool.not_false, true_and, and_true, List.map_cons, List.map_nil, List.nil_append, List.cons_append, List.append_nil, Option.map_some, Option.bind_some, List.getElem?_cons_zero, List.getElem?_cons_succ, Bool.false_eq_true, not_true_eq_false, not_false_eq_true, List.contains_cons, List.contains_nil, Nat.reduceBEq, Bool.true_or, Bool.false_or, Bool.or_true, List.set_cons_zero, List.set_cons_succ, List.length_cons, List.length_nil, isLd, Bool.true_and, Bool.false_and, Bool.and_true, Bool.and_false], by simp (maxSteps := 300000) (disch := omega) only [gs, gs2, gs3, ↓reduceIte, Nat.reduceEqDiff, Nat.mul_one, Nat.add_zero, Nat.zero_add, Nat.zero_mul, Int.toNat_natCast, Int.reduceToNat, Nat.reduceMul, Nat.reduceAdd, decide_true, decide_false, Bool.not_true, Bool.not_false, true_and, and_true, List.map_cons, List.map_nil, List.nil_append, List.cons_append, List.append_nil, Option.map_some, Option.bind_some, List.getElem?_cons_zero, List.getElem?_cons_succ, Bool.false_eq_true, not_true_eq_false, not_false_eq_true, List.contains_cons, List.contains_nil, Nat.reduceBEq, Bool.true_or, Bool.false_or, Bool.or_true, List.set_cons_zero, List.set_cons_succ, List.length_cons, List.length_nil, isLd, Bool.true_and, Bool.false_and, Bool.and_true, Bool.and_false], rfl, ha, hb, rfl, rfl⟩ ?_
  rintro m T G' ⟨x, y, e0, e1, rfl, hx, hy, rfl, hg⟩
  simp (maxSteps := 300000) (disch := omega) only [gs, gs2, gs3, ↓reduceIte, Nat.reduceEqDiff, Nat.mul_one, Nat.add_zero, Nat.zero_add, Nat.zero_mul, Int.toNat_natCast, Int.reduceToNat, Nat.reduceMul, Nat.reduceAdd, decide_true, decide_false, Bool.not_true, Bool.not_false, true_and, and_true, List.map_cons, List.map_nil, List.nil_append, List.cons_append, List.append_nil, Option.map_some, Option.bind_some, List.getElem?_cons_zero, List.getElem?_cons_succ, Bool.false_eq_true, not_true_eq_false, not_false_eq_true, List.contains_cons, List.contains_nil, Nat.reduceBEq, Bool.true_or, Bool.false_or, Bool.or_true, List.set_cons_zero, List.set_cons_succ, List.length_cons, List.length_nil, isLd, Bool.true_and, Bool.false_and, Bool.and_true, Bool.and_false, e0, e1]
  by_cases hy0 : y = 0
  · simp (maxSteps := 300000) (disch := omega) only [gs, gs2, gs3, ↓reduceIte, Nat.reduceEqDiff, Nat.mul_one, Nat.add_zero, Nat.zero_add, Nat.zero_mul, Int.toNat_natCast, Int.reduceToNat, Nat.reduceMul, Nat.reduceAdd, decide_true, decide_false, Bool.not_true, Bool.not_false, true_and, and_true, List.map_cons, List.map_nil, List.nil_append, List.cons_append, List.append_nil, Option.map_some, Option.bind_some, List.getElem?_cons_zero, List.getElem?_cons_succ, Bool.false_eq_true, not_true_eq_false, not_false_eq_true, List.contains_cons, List.contains_nil, Nat.reduceBEq, Bool.true_or, Bool.false_or, Bool.or_true, List.set_cons_zero, List.set_cons_succ, List.length_cons, List.length_nil, isLd, Bool.true_and, Bool.false_and, Bool.and_true, Bool.and_false, e0, e1, eq_true hy0]
    subst hy0
    have e : x = (Nat.gcd a.toNat b.toNat : Nat) := by rw [← hg]; simp; omega
    rw [e]; exact hk
  · have q1 := Int.emod_nonneg x (show y ≠ 0 by omega)
    have q2 := Int.emod_lt_of_pos x (show 0 < y by omega)
    have hrm : x.tmod y = x % y := Int.tmod_eq_emod_of_nonneg hx.1
    simp (maxSteps := 300000) (disch := omega) only [gs, gs2, gs3, ↓reduceIte, Nat.reduceEqDiff, Nat.mul_one, Nat.add_zero, Nat.zero_add, Nat.zero_mul, Int.toNat_natCast, Int.reduceToNat, Nat.reduceMul, Nat.reduceAdd, decide_true, decide_false, Bool.not_true, Bool.not_false, true_and, and_true, List.map_cons, List.map_nil, List.nil_append, List.cons_append, List.append_nil, Option.map_some, Option.bind_some, List.getElem?_cons_zero, List.getElem?_cons_succ, Bool.false_eq_true, not_true_eq_false, not_false_eq_true, List.contains_cons, List.contains_nil, Nat.reduceBEq, Bool.true_or, Bool.false_or, Bool.or_true, List.set_cons_zero, List.set_cons_succ, List.length_cons, List.length_nil, isLd, Bool.true_and, Bool.false_and, Bool.and_true, Bool.and_false, e0, e1, eq_false hy0, bin_rem .i64 x y hy0, hrm]
    exact ⟨(x % y).toNat, by omega, G, Sub.refl _, y, x % y, rfl, rfl, rfl, hy, ⟨q1, by omega⟩, rfl, by rw [gcd_step hx.1 (by omega)]; exact hg⟩
theorem impl_isConnected_ok {G : GH} {N : Gra} {A : Option Addr} {c : Nat} (h : T3S G A c N.edges) (hn : GraOk N) {K : Value → GH → Prop}
    (hk : ∀ b : Bool, (b = true ↔ ∀ v : Int, 0 ≤ v → v < N.n → cR N.edges N.n.toNat v = 0) → K (.bool b) G) : GC Try.prog 181 [graV N A c] G K := by
  refine GC_drop (c_impl_isConnected_i (by simp) ?_)
  have hn1 := hn.1
  unfold graV graC
  simp (maxSteps := 300000) (disch := omega) only [gs, gs2, gs3, ↓reduceIte, Nat.reduceEqDiff, Nat.mul_one, Nat.add_zero, Nat.zero_add, Nat.zero_mul, Int.toNat_natCast, Int.reduceToNat, Nat.reduceMul, Nat.reduceAdd, decide_true, decide_false, Bool.not_true, Bool.not_false, true_and, and_true, List.map_cons, List.map_nil, List.nil_append, List.cons_append, List.append_nil, Option.map_some, Option.bind_some, List.getElem?_cons_zero, List.getElem?_cons_succ, Bool.false_eq_true, not_true_eq_false, not_false_eq_true, List.contains_cons, List.contains_nil, Nat.reduceBEq, Bool.true_or, Bool.false_or, Bool.or_true, List.set_cons_zero, List.set_cons_succ, List.length_cons, List.length_nil, isLd, Bool.true_and, Bool.false_and, Bool.and_true, Bool.and_false]
  intro b1 hb1
  have s1 := Sub.put hb1 ⟨[.int .i64 N.n, .slice A N.edges.length c], true⟩
  have f0 : rd (put G b1 ⟨[.int .i64 N.n, .slice A N.edges.length c], true⟩) (some ⟨b1, 0, none⟩) = some (.int .i64 N.n) := rd_box _ _ _ 0 _ rfl
  have f1 : rd (put G b1 ⟨[.int .i64 N.n, .slice A N.edges.length c], true⟩) (some ⟨b1, 1, none⟩) = some (.slice A N.edges.length c) := rd_box _ _ _ 1 _ rfl
  revert s1 f0 f1
  generalize put G b1 ⟨[.int .i64 N.n, .slice A N.edges.length c], true⟩ = G1
  intro s1 f0 f1
  simp (maxSteps := 300000) (disch := omega) only [gs, gs2, gs3, ↓reduceIte, Nat.reduceEqDiff, Nat.mul_one, Nat.add_zero, Nat.zero_add, Nat.zero_mul, Int.toNat_natCast, Int.reduceToNat, Nat.reduceMul, Nat.reduceAdd, decide_true, decide_false, Bool.not_true, Bool.not_false, true_and, and_true, List.map_cons, List.map_nil, List.nil_append, List.cons_append, List.append_nil, Option.map_some, Option.bind_some, List.getElem?_cons_zero, List.getElem?_cons_succ, Bool.false_eq_true, not_true_eq_false, not_false_eq_true, List.contains_cons, List.contains_nil, Nat.reduceBEq, Bool.true_or, Bool.false_or, Bool.or_true, List.set_cons_zero, List.set_cons_succ, List.length_cons, List.length_nil, isLd, Bool.true_and, Bool.false_and, Bool.and_true, Bool.and_false, f0, f1]
  refine impl_components_ok (N := N) (h.sub s1) hn1 hn.2.2.2 (fun i hi => by have := hn.2.1 i hi; unfold okEdge at this; omega) fun G2 A2 c2 hN => ?_
  simp (maxSteps := 300000) (disch := omega) only [gs, gs2, gs3, ↓reduceIte, Nat.reduceEqDiff, Nat.mul_one, Nat.add_zero, Nat.zero_add, Nat.zero_mul, Int.toNat_natCast, Int.reduceToNat, Nat.reduceMul, Nat.reduceAdd, decide_true, decide_false, Bool.not_true, Bool.not_false, true_and, and_true, List.map_cons, List.map_nil, List.nil_append, List.cons_append, List.append_nil, Option.map_some, Option.bind_some, List.getElem?_cons_zero, List.getElem?_cons_succ, Bool.false_eq_true, not_true_eq_false, not_false_eq_true, List.contains_cons, List.contains_nil, Nat.reduceBEq, Bool.true_or, Bool.false_or, Bool.or_true, List.set_cons_zero, List.set_cons_succ, List.length_cons, List.length_nil, isLd, Bool.true_and, Bool.false_and, Bool.and_true, Bool.and_false]
  refine c_impl_isZero_i (by simp) ?_
  simp (maxSteps := 300000) (disch := omega) only [gs, gs2, gs3, ↓reduceIte, Nat.reduceEqDiff, Nat.mul_one, Nat.add_zero, Nat.zero_add, Nat.zero_mul, Int.toNat_natCast, Int.reduceToNat, Nat.reduceMul, Nat.reduceAdd, decide_true, decide_false, Bool.not_true, Bool.not_false, true_and, and_true, List.map_cons, List.map_nil, List.nil_append, List.cons_append, List.append_nil, Option.map_some, Option.bind_some, List.getElem?_cons_zero, List.getElem?_cons_succ, Bool.false_eq_true, not_true_eq_false, not_false_eq_true, List.contains_cons, List.contains_nil, Nat.reduceBEq, Bool.true_or, Bool.false_or, Bool.or_true, List.set_cons_zero, List.set_cons_succ, List.length_cons, List.length_nil, isLd, Bool.true_and, Bool.false_and, Bool.and_true, Bool.and_false]
  have hpl := parts_len N.n.toNat N.edges
  have hI := hN.ints' hpl.symm
  rw [show Value.slice A2 N.n.toNat c2 = .slice A2 (parts N.n.toNat N.edges).length c2 by rw [hpl]]
  refine slices_ContainsFunc_ok (fun n => n != 0) hI (by omega) (fun i hi K' hK' => ?_) ?_
  · simp (maxSteps := 300000) (disch := omega) only [gs, gs2, gs3, ↓reduceIte, Nat.reduceEqDiff, Nat.mul_one, Nat.add_zero, Nat.zero_add, Nat.zero_mul, Int.toNat_natCast, Int.reduceToNat, Nat.reduceMul, Nat.reduceAdd, decide_true, decide_false, Bool.not_true, Bool.not_false, true_and, and_true, List.map_cons, List.map_nil, List.nil_append, List.cons_append, List.append_nil, Option.map_some, Option.bind_some, List.getElem?_cons_zero, List.getElem?_cons_succ, Bool.false_eq_true, not_true_eq_false, not_false_eq_true, List.contains_cons, List.contains_nil, Nat.reduceBEq, Bool.true_or, Bool.false_or, Bool.or_true, List.set_cons_zero, List.set_cons_succ, List.length_cons, List.length_nil, isLd, Bool.true_and, Bool.false_and, Bool.and_true, Bool.and_false]
    refine c_impl_isZero_fn1_i (by simp) ?_
    simp (maxSteps := 300000) (disch := omega) only [gs, gs2, gs3, ↓reduceIte, Nat.reduceEqDiff, Nat.mul_one, Nat.add_zero, Nat.zero_add, Nat.zero_mul, Int.toNat_natCast, Int.reduceToNat, Nat.reduceMul, Nat.reduceAdd, decide_true, decide_false, Bool.not_true, Bool.not_false, true_and, and_true, List.map_cons, List.map_nil, List.nil_append, List.cons_append, List.append_nil, Option.map_some, Option.bind_some, List.getElem?_cons_zero, List.getElem?_cons_succ, Bool.false_eq_true, not_true_eq_false, not_false_eq_true, List.contains_cons, List.contains_nil, Nat.reduceBEq, Bool.true_or, Bool.false_or, Bool.or_true, List.set_cons_zero, List.set_cons_succ, List.length_cons, List.length_nil, isLd, Bool.true_and, Bool.false_and, Bool.and_true, Bool.and_false]
    have e : ∀ y : Int, (decide ¬ y = 0) = (y != 0) := fun y => by by_cases h : y = 0 <;> simp [h]
    rw [e]; exact hK'
  · simp (maxSteps := 300000) (disch := omega) only [gs, gs2, gs3, ↓reduceIte, Nat.reduceEqDiff, Nat.mul_one, Nat.add_zero, Nat.zero_add, Nat.zero_mul, Int.toNat_natCast, Int.reduceToNat, Nat.reduceMul, Nat.reduceAdd, decide_true, decide_false, Bool.not_true, Bool.not_false, true_and, and_true, List.map_cons, List.map_nil, List.nil_append, List.cons_append, List.append_nil, Option.map_some, Option.bind_some, List.getElem?_cons_zero, List.getElem?_cons_succ, Bool.false_eq_true, not_true_eq_false, not_false_eq_true, List.contains_cons, List.contains_nil, Nat.reduceBEq, Bool.true_or, Bool.false_or, Bool.or_true, List.set_cons_zero, List.set_cons_succ, List.length_cons, List.length_nil, isLd, Bool.true_and, Bool.false_and, Bool.and_true, Bool.and_false]
    refine ⟨G, s1.trans hN.sub, hk _ ?_⟩
    simp only [parts, Bool.not_eq_true', List.any_eq_false, List.mem_map, List.mem_range, forall_exists_index, and_imp, bne_iff_ne, ne_eq, Classical.not_not]
    constructor
    · intro hh v h0 h1
      have := hh _ v.toNat (by omega) rfl
      rwa [Int.toNat_of_nonneg h0] at this
    · intro hh x v hv hx
      rw [← hx]; exact hh v (by omega) (by omega)
open Classical in
/-- what ResistanceOf returns. -/
noncomputable def ohmV (N : Gra) (a b : Int) : Int × Int × Int :=
  if ¬ GraOk N then (0, 0, 1) else if ¬ ((0 ≤ a ∧ a < N.n) ∧ 0 ≤ b ∧ b < N.n) then (0, 0, 2)
  else if dt (keep N.n.toNat [0]).length (sub (keep N.n.toNat [0]) (lapK N.edges N.edges.length)) = 0 then (0, 0, 6) else if a = b then (0, 1, 0)
  else (dt (keep N.n.toNat [a, b]).length (sub (keep N.n.toNat [a, b]) (lapK N.edges N.edges.length)) / (Nat.gcd (dt (keep N.n.toNat [a, b]).length (sub (keep N.n.toNat [a, b]) (lapK N.edges N.edges.length))).toNat (dt (keep N.n.toNat [0]).length (sub (keep N.n.toNat [0]) (lapK N.edges N.edges.length))).toNat : Nat),
    dt (keep N.n.toNat [0]).length (sub (keep N.n.toNat [0]) (lapK N.edges N.edges.length)) / (Nat.gcd (dt (keep N.n.toNat [a, b]).length (sub (keep N.n.toNat [a, b]) (lapK N.edges N.edges.length))).toNat (dt (keep N.n.toNat [0]).length (sub (keep N.n.toNat [0]) (lapK N.edges N.edges.length))).toNat : Nat), 0)
def tripV (p : Int × Int × Int) : Value := .tuple [.int .i64 p.1, .int .i64 p.2.1, .int .i64 p.2.2].toArray
theorem keep2 {N : Gra} (hn : GraOk N) {a b : Int} (ha : 0 ≤ a ∧ a < N.n) : (keep N.n.toNat [a, b]).length ≤ 11 := by
  have hn1 := hn.1
  have := keep_lt (n := N.n.toNat) (om := [a, b]) ⟨a, by simp, by omega, by omega⟩
  omega
theorem quo_ok {x g : Int} (hx : 0 ≤ x ∧ x < 2 ^ 62) (hg : 0 < g) : binV .quo (.int .i64 x) (.int .i64 g) = some (.int .i64 (x / g)) := by
  have h1 : 0 ≤ x / g := Int.ediv_nonneg hx.1 (by omega)
  have h2 : x / g ≤ x := Int.ediv_le_self _ hx.1
  rw [bin_quo _ _ _ (by omega), Int.tdiv_eq_ediv_of_nonneg hx.1, w64 _ (by omega) (by omega)]
theorem impl_ResistanceOf_ok {G : GH} {N : Gra} {A : Option Addr} {c : Nat} {a b : Int} (h : T3S G A c N.edges) (hl : N.edges.length < 2 ^ 40) {K : Value → GH → Prop}
    (hk : K (tripV (ohmV N a b)) G) : GC Try.prog 84 [graV N A c, .int .i64 a, .int .i64 b] G K := by
  refine GC_drop (c_impl_ResistanceOf_i (by simp) ?_)
  unfold graV graC
  simp (maxSteps := 300000) (disch := omega) only [gs, gs2, gs3, ↓reduceIte, Nat.reduceEqDiff, Nat.mul_one, Nat.add_zero, Nat.zero_add, Nat.zero_mul, Int.toNat_natCast, Int.reduceToNat, Nat.reduceMul, Nat.reduceAdd, decide_true, decide_false, Bool.not_true, Bool.not_false, true_and, and_true, List.map_cons, List.map_nil, List.nil_append, List.cons_append, List.append_nil, Option.map_some, Option.bind_some, List.getElem?_cons_zero, List.getElem?_cons_succ, Bool.false_eq_true, not_true_eq_false, not_false_eq_true, List.contains_cons, List.contains_nil, Nat.reduceBEq, Bool.true_or, Bool.false_or, Bool.or_true, List.set_cons_zero, List.set_cons_succ, List.length_cons, List.length_nil, isLd, Bool.true_and, Bool.false_and, Bool.and_true, Bool.and_false]
  intro b1 hb1
  have s1 := Sub.put hb1 ⟨[.int .i64 N.n, .slice A N.edges.length c], true⟩
  have f0 : rd (put G b1 ⟨[.int .i64 N.n, .slice A N.edges.length c], true⟩) (some ⟨b1, 0, none⟩) = some (.int .i64 N.n) := rd_box _ _ _ 0 _ rfl
  have f1 : rd (put G b1 ⟨[.int .i64 N.n, .slice A N.edges.length c], true⟩) (some ⟨b1, 1, none⟩) = some (.slice A N.edges.length c) := rd_box _ _ _ 1 _ rfl
  revert s1 f0 f1
  generalize put G b1 ⟨[.int .i64 N.n, .slice A N.edges.length c], true⟩ = G1
  intro s1 f0 f1
  simp (maxSteps := 300000) (disch := omega) only [gs, gs2, gs3, ↓reduceIte, Nat.reduceEqDiff, Nat.mul_one, Nat.add_zero, Nat.zero_add, Nat.zero_mul, Int.toNat_natCast, Int.reduceToNat, Nat.reduceMul, Nat.reduceAdd, decide_true, decide_false, Bool.not_true, Bool.not_false, true_and, and_true, List.map_cons, List.map_nil, List.nil_append, List.cons_append, List.append_nil, Option.map_some, Option.bind_some, List.getElem?_cons_zero, List.getElem?_cons_succ, Bool.false_eq_true, not_true_eq_false, not_false_eq_true, List.contains_cons, List.contains_nil, Nat.reduceBEq, Bool.true_or, Bool.false_or, Bool.or_true, List.set_cons_zero, List.set_cons_succ, List.length_cons, List.length_nil, isLd, Bool.true_and, Bool.false_and, Bool.and_true, Bool.and_false, f0, f1]
  refine impl_ValidGraph_ok (N := N) (h.sub s1) hl fun bb hbb => ?_
  cases bb
  · simp (maxSteps := 300000) (disch := omega) only [gs, gs2, gs3, ↓reduceIte, Nat.reduceEqDiff, Nat.mul_one, Nat.add_zero, Nat.zero_add, Nat.zero_mul, Int.toNat_natCast, Int.reduceToNat, Nat.reduceMul, Nat.reduceAdd, decide_true, decide_false, Bool.not_true, Bool.not_false, true_and, and_true, List.map_cons, List.map_nil, List.nil_append, List.cons_append, List.append_nil, Option.map_some, Option.bind_some, List.getElem?_cons_zero, List.getElem?_cons_succ, Bool.false_eq_true, not_true_eq_false, not_false_eq_true, List.contains_cons, List.contains_nil, Nat.reduceBEq, Bool.true_or, Bool.false_or, Bool.or_true, List.set_cons_zero, List.set_cons_succ, List.length_cons, List.length_nil, isLd, Bool.true_and, Bool.false_and, Bool.and_true, Bool.and_false]
    have : ohmV N a b = (0, 0, 1) := by unfold ohmV; rw [if_pos fun x => by have := hbb.2 x; cases this]
    rw [this] at hk
    exact ⟨G, s1, hk⟩
  have hn := hbb.1 rfl
  have hn1 := hn.1
  have hwr := w64 (N.n - 1) (by omega) (by omega)
  simp (maxSteps := 300000) (disch := omega) only [gs, gs2, gs3, ↓reduceIte, Nat.reduceEqDiff, Nat.mul_one, Nat.add_zero, Nat.zero_add, Nat.zero_mul, Int.toNat_natCast, Int.reduceToNat, Nat.reduceMul, Nat.reduceAdd, decide_true, decide_false, Bool.not_true, Bool.not_false, true_and, and_true, List.map_cons, List.map_nil, List.nil_append, List.cons_append, List.append_nil, Option.map_some, Option.bind_some, List.getElem?_cons_zero, List.getElem?_cons_succ, Bool.false_eq_true, not_true_eq_false, not_false_eq_true, List.contains_cons, List.contains_nil, Nat.reduceBEq, Bool.true_or, Bool.false_or, Bool.or_true, List.set_cons_zero, List.set_cons_succ, List.length_cons, List.length_nil, isLd, Bool.true_and, Bool.false_and, Bool.and_true, Bool.and_false, f0, f1]
  refine impl_isElement_ok _ _ ?_
  rw [hwr]
  simp (maxSteps := 300000) (disch := omega) only [gs, gs2, gs3, ↓reduceIte, Nat.reduceEqDiff, Nat.mul_one, Nat.add_zero, Nat.zero_add, Nat.zero_mul, Int.toNat_natCast, Int.reduceToNat, Nat.reduceMul, Nat.reduceAdd, decide_true, decide_false, Bool.not_true, Bool.not_false, true_and, and_true, List.map_cons, List.map_nil, List.nil_append, List.cons_append, List.append_nil, Option.map_some, Option.bind_some, List.getElem?_cons_zero, List.getElem?_cons_succ, Bool.false_eq_true, not_true_eq_false, not_false_eq_true, List.contains_cons, List.contains_nil, Nat.reduceBEq, Bool.true_or, Bool.false_or, Bool.or_true, List.set_cons_zero, List.set_cons_succ, List.length_cons, List.length_nil, isLd, Bool.true_and, Bool.false_and, Bool.and_true, Bool.and_false, f0, f1]
  by_cases ga : 0 ≤ a ∧ a ≤ N.n - 1
  rotate_left
  · rw [decide_eq_false ga]
    simp (maxSteps := 300000) (disch := omega) only [gs, gs2, gs3, ↓reduceIte, Nat.reduceEqDiff, Nat.mul_one, Nat.add_zero, Nat.zero_add, Nat.zero_mul, Int.toNat_natCast, Int.reduceToNat, Nat.reduceMul, Nat.reduceAdd, decide_true, decide_false, Bool.not_true, Bool.not_false, true_and, and_true, List.map_cons, List.map_nil, List.nil_append, List.cons_append, List.append_nil, Option.map_some, Option.bind_some, List.getElem?_cons_zero, List.getElem?_cons_succ, Bool.false_eq_true, not_true_eq_false, not_false_eq_true, List.contains_cons, List.contains_nil, Nat.reduceBEq, Bool.true_or, Bool.false_or, Bool.or_true, List.set_cons_zero, List.set_cons_succ, List.length_cons, List.length_nil, isLd, Bool.true_and, Bool.false_and, Bool.and_true, Bool.and_false, f0, f1]
    have : ohmV N a b = (0, 0, 2) := by unfold ohmV; rw [if_neg (fun x => x hn), if_pos (by omega)]
    rw [this] at hk
    exact ⟨G, s1, hk⟩
  rw [decide_eq_true ga]
  simp (maxSteps := 300000) (disch := omega) only [gs, gs2, gs3, ↓reduceIte, Nat.reduceEqDiff, Nat.mul_one, Nat.add_zero, Nat.zero_add, Nat.zero_mul, Int.toNat_natCast, Int.reduceToNat, Nat.reduceMul, Nat.reduceAdd, decide_true, decide_false, Bool.not_true, Bool.not_false, true_and, and_true, List.map_cons, List.map_nil, List.nil_append, List.cons_append, List.append_nil, Option.map_some, Option.bind_some, List.getElem?_cons_zero, List.getElem?_cons_succ, Bool.false_eq_true, not_true_eq_false, not_false_eq_true, List.contains_cons, List.contains_nil, Nat.reduceBEq, Bool.true_or, Bool.false_or, Bool.or_true, List.set_cons_zero, List.set_cons_succ, List.length_cons, List.length_nil, isLd, Bool.true_and, Bool.false_and, Bool.and_true, Bool.and_false, f0, f1]
  refine impl_isElement_ok _ _ ?_
  rw [hwr]
  simp (maxSteps := 300000) (disch := omega) only [gs, gs2, gs3, ↓reduceIte, Nat.reduceEqDiff, Nat.mul_one, Nat.add_zero, Nat.zero_add, Nat.zero_mul, Int.toNat_natCast, Int.reduceToNat, Nat.reduceMul, Nat.reduceAdd, decide_true, decide_false, Bool.not_true, Bool.not_false, true_and, and_true, List.map_cons, List.map_nil, List.nil_append, List.cons_append, List.append_nil, Option.map_some, Option.bind_some, List.getElem?_cons_zero, List.getElem?_cons_succ, Bool.false_eq_true, not_true_eq_false, not_false_eq_true, List.contains_cons, List.contains_nil, Nat.reduceBEq, Bool.true_or, Bool.false_or, Bool.or_true, List.set_cons_zero, List.set_cons_succ, List.length_cons, List.length_nil, isLd, Bool.true_and, Bool.false_and, Bool.and_true, Bool.and_false, f0, f1]
  by_cases gb : 0 ≤ b ∧ b ≤ N.n - 1
  rotate_left
  · rw [decide_eq_false gb]
    simp (maxSteps := 300000) (disch := omega) only [gs, gs2, gs3, ↓reduceIte, Nat.reduceEqDiff, Nat.mul_one, Nat.add_zero, Nat.zero_add, Nat.zero_mul, Int.toNat_natCast, Int.reduceToNat, Nat.reduceMul, Nat.reduceAdd, decide_true, decide_false, Bool.not_true, Bool.not_false, true_and, and_true, List.map_cons, List.map_nil, List.nil_append, List.cons_append, List.append_nil, Option.map_some, Option.bind_some, List.getElem?_cons_zero, List.getElem?_cons_succ, Bool.false_eq_true, not_true_eq_false, not_false_eq_true, List.contains_cons, List.contains_nil, Nat.reduceBEq, Bool.true_or, Bool.false_or, Bool.or_true, List.set_cons_zero, List.set_cons_succ, List.length_cons, List.length_nil, isLd, Bool.true_and, Bool.false_and, Bool.and_true, Bool.and_false, f0, f1]
    have : ohmV N a b = (0, 0, 2) := by unfold ohmV; rw [if_neg (fun x => x hn), if_pos (by omega)]
    rw [this] at hk
    exact ⟨G, s1, hk⟩
  rw [decide_eq_true gb]
  simp (maxSteps := 300000) (disch := omega) only [gs, gs2, gs3, ↓reduceIte, Nat.reduceEqDiff, Nat.mul_one, Nat.add_zero, Nat.zero_add, Nat.zero_mul, Int.toNat_natCast, Int.reduceToNat, Nat.reduceMul, Nat.reduceAdd, decide_true, decide_false, Bool.not_true, Bool.not_false, true_and, and_true, List.map_cons, List.map_nil, List.nil_append, List.cons_append, List.append_nil, Option.map_some, Option.bind_some, List.getElem?_cons_zero, List.getElem?_cons_succ, Bool.false_eq_true, not_true_eq_false, not_false_eq_true, List.contains_cons, List.contains_nil, Nat.reduceBEq, Bool.true_or, Bool.false_or, Bool.or_true, List.set_cons_zero, List.set_cons_succ, List.length_cons, List.length_nil, isLd, Bool.true_and, Bool.false_and, Bool.and_true, Bool.and_false, f0, f1]
  refine impl_isConnected_ok (N := N) (h.sub s1) hn fun bc hbc => ?_
  rw [conn_iff hn] at hbc
  have e0 : ohmV N a b = if dt (keep N.n.toNat [0]).length (sub (keep N.n.toNat [0]) (lapK N.edges N.edges.length)) = 0 then (0, 0, 6) else if a = b then (0, 1, 0)
    else (dt (keep N.n.toNat [a, b]).length (sub (keep N.n.toNat [a, b]) (lapK N.edges N.edges.length)) / (Nat.gcd (dt (keep N.n.toNat [a, b]).length (sub (keep N.n.toNat [a, b]) (lapK N.edges N.edges.length))).toNat (dt (keep N.n.toNat [0]).length (sub (keep N.n.toNat [0]) (lapK N.edges N.edges.length))).toNat : Nat),
    dt (keep N.n.toNat [0]).length (sub (keep N.n.toNat [0]) (lapK N.edges N.edges.length)) / (Nat.gcd (dt (keep N.n.toNat [a, b]).length (sub (keep N.n.toNat [a, b]) (lapK N.edges N.edges.length))).toNat (dt (keep N.n.toNat [0]).length (sub (keep N.n.toNat [0]) (lapK N.edges N.edges.length))).toNat : Nat), 0) := by
    unfold ohmV; rw [if_neg (fun x => x hn), if_neg (by omega)]
  cases bc
  · simp (maxSteps := 300000) (disch := omega) only [gs, gs2, gs3, ↓reduceIte, Nat.reduceEqDiff, Nat.mul_one, Nat.add_zero, Nat.zero_add, Nat.zero_mul, Int.toNat_natCast, Int.reduceToNat, Nat.reduceMul, Nat.reduceAdd, decide_true, decide_false, Bool.not_true, Bool.not_false, true_and, and_true, List.map_cons, List.map_nil, List.nil_append, List.cons_append, List.append_nil, Option.map_some, Option.bind_some, List.getElem?_cons_zero, List.getElem?_cons_succ, Bool.false_eq_true, not_true_eq_false, not_false_eq_true, List.contains_cons, List.contains_nil, Nat.reduceBEq, Bool.true_or, Bool.false_or, Bool.or_true, List.set_cons_zero, List.set_cons_succ, List.length_cons, List.length_nil, isLd, Bool.true_and, Bool.false_and, Bool.and_true, Bool.and_false, f0, f1]
    have hz : dt (keep N.n.toNat [0]).length (sub (keep N.n.toNat [0]) (lapK N.edges N.edges.length)) = 0 := Classical.byContradiction fun x => by have := hbc.2 x; cases this
    rw [e0, if_pos hz] at hk
    exact ⟨G, s1, hk⟩
  have hz := hbc.1 rfl
  rw [if_neg hz] at e0
  simp (maxSteps := 300000) (disch := omega) only [gs, gs2, gs3, ↓reduceIte, Nat.reduceEqDiff, Nat.mul_one, Nat.add_zero, Nat.zero_add, Nat.zero_mul, Int.toNat_natCast, Int.reduceToNat, Nat.reduceMul, Nat.reduceAdd, decide_true, decide_false, Bool.not_true, Bool.not_false, true_and, and_true, List.map_cons, List.map_nil, List.nil_append, List.cons_append, List.append_nil, Option.map_some, Option.bind_some, List.getElem?_cons_zero, List.getElem?_cons_succ, Bool.false_eq_true, not_true_eq_false, not_false_eq_true, List.contains_cons, List.contains_nil, Nat.reduceBEq, Bool.true_or, Bool.false_or, Bool.or_true, List.set_cons_zero, List.set_cons_succ, List.length_cons, List.length_nil, isLd, Bool.true_and, Bool.false_and, Bool.and_true, Bool.and_false, f0, f1]
  by_cases gab : a = b
  · simp (maxSteps := 300000) (disch := omega) only [gs, gs2, gs3, ↓reduceIte, Nat.reduceEqDiff, Nat.mul_one, Nat.add_zero, Nat.zero_add, Nat.zero_mul, Int.toNat_natCast, Int.reduceToNat, Nat.reduceMul, Nat.reduceAdd, decide_true, decide_false, Bool.not_true, Bool.not_false, true_and, and_true, List.map_cons, List.map_nil, List.nil_append, List.cons_append, List.append_nil, Option.map_some, Option.bind_some, List.getElem?_cons_zero, List.getElem?_cons_succ, Bool.false_eq_true, not_true_eq_false, not_false_eq_true, List.contains_cons, List.contains_nil, Nat.reduceBEq, Bool.true_or, Bool.false_or, Bool.or_true, List.set_cons_zero, List.set_cons_succ, List.length_cons, List.length_nil, isLd, Bool.true_and, Bool.false_and, Bool.and_true, Bool.and_false, eq_true gab]
    rw [e0, if_pos gab] at hk
    exact ⟨G, s1, hk⟩
  rw [if_neg gab] at e0
  have hd0 := minor_bd hn [0] (keep0 hn)
  have hdn := minor_bd hn [a, b] (keep2 hn (a := a) (b := b) (by omega))
  obtain ⟨x, hx⟩ : ∃ x, x = dt (keep N.n.toNat [a, b]).length (sub (keep N.n.toNat [a, b]) (lapK N.edges N.edges.length)) := ⟨_, rfl⟩
  obtain ⟨y, hy⟩ : ∃ y, y = dt (keep N.n.toNat [0]).length (sub (keep N.n.toNat [0]) (lapK N.edges N.edges.length)) := ⟨_, rfl⟩
  rw [← hx, ← hy] at e0
  rw [← hx] at hdn
  rw [← hy] at hd0 hz
  rw [e0] at hk
  have minAB : ∀ {GX : GH}, Sub G1 GX → ∀ {bx : Nat}, GX bx = some ⟨([a, b] : List Int).map I64, true⟩ → ∀ {K' : Value → GH → Prop}, K' (.int .i64 x) GX → GC Try.prog 178 [.agg #[.int .i64 N.n, .slice A N.edges.length c], .slice (some ⟨bx, 0, none⟩) 2 2] GX K' := by
    intro GX sX bx hbx K' hK'
    refine impl_minor_ok (N := N) (om := [a, b]) ((h.sub s1).sub sX) hn (blk_ints (xs := [a, b]) hbx) (by simp) (keep2 hn (a := a) (b := b) (by omega)) ?_
    rw [← hx]; exact hK'
  have min0 : ∀ {GX : GH}, Sub G1 GX → ∀ {bx : Nat}, GX bx = some ⟨([0] : List Int).map I64, true⟩ → ∀ {K' : Value → GH → Prop}, K' (.int .i64 y) GX → GC Try.prog 178 [.agg #[.int .i64 N.n, .slice A N.edges.length c], .slice (some ⟨bx, 0, none⟩) 1 1] GX K' := by
    intro GX sX bx hbx K' hK'
    refine impl_minor_ok (N := N) (om := [0]) ((h.sub s1).sub sX) hn (blk_ints (xs := [0]) hbx) (by simp) (keep0 hn) ?_
    rw [← hy]; exact hK'
  have ld2 : ∀ {GX : GH}, Sub G1 GX → Option.map (fun l : List Value => Value.agg l.toArray) ((rd GX (some ⟨b1, 0, none⟩)).bind fun v => Option.map (fun x => v :: x) ((rd GX (some ⟨b1, 1, none⟩)).bind fun v => some [v])) = some (Value.agg #[Value.int .i64 N.n, Value.slice A N.edges.length c]) := fun s => by rw [rd_sub s f0, rd_sub s f1]; rfl
  have hgp : 0 < Nat.gcd x.toNat y.toNat := Nat.gcd_pos_of_pos_right _ (by omega)
  have q1 := quo_ok (x := x) (g := (Nat.gcd x.toNat y.toNat : Nat)) ⟨by omega, by omega⟩ (by omega)
  have q2 := quo_ok (x := y) (g := (Nat.gcd x.toNat y.toNat : Nat)) ⟨by omega, by omega⟩ (by omega)
  simp (maxSteps := 300000) (disch := omega) only [gs, gs2, gs3, ↓reduceIte, Nat.reduceEqDiff, Nat.mul_one, Nat.add_zero, Nat.zero_add, Nat.zero_mul, Int.toNat_natCast, Int.reduceToNat, Nat.reduceMul, Nat.reduceAdd, decide_true, decide_false, Bool.not_true, Bool.not_false, true_and, and_true, List.map_cons, List.map_nil, List.nil_append, List.cons_append, List.append_nil, Option.map_some, Option.bind_some, List.getElem?_cons_zero, List.getElem?_cons_succ, Bool.false_eq_true, not_true_eq_false, not_false_eq_true, List.contains_cons, List.contains_nil, Nat.reduceBEq, Bool.true_or, Bool.false_or, Bool.or_true, List.set_cons_zero, List.set_cons_succ, List.length_cons, List.length_nil, isLd, Bool.true_and, Bool.false_and, Bool.and_true, Bool.and_false, eq_false gab, f0, f1, gBs]
  refine ⟨⟨by intro v hv; simp at hv; rcases hv with rfl | rfl <;> rfl, fun bA hbA => ⟨⟨ld2 (Sub.put hbA _), ld2 (Sub.put hbA _)⟩, ?_, by intro v hv; simp at hv; subst hv; rfl, fun b0 hb0 => ?_⟩⟩, by intro v hv; simp at hv; subst hv; rfl, fun b0 hb0 => ?_⟩
  · have sA := Sub.put hbA ⟨([a, b] : List Int).map I64, true⟩
    refine minAB sA (put_same _ _ _) ?_
    simp (maxSteps := 300000) (disch := omega) only [gs, gs2, gs3, ↓reduceIte, Nat.reduceEqDiff, Nat.mul_one, Nat.add_zero, Nat.zero_add, Nat.zero_mul, Int.toNat_natCast, Int.reduceToNat, Nat.reduceMul, Nat.reduceAdd, decide_true, decide_false, Bool.not_true, Bool.not_false, true_and, and_true, List.map_cons, List.map_nil, List.nil_append, List.cons_append, List.append_nil, Option.map_some, Option.bind_some, List.getElem?_cons_zero, List.getElem?_cons_succ, Bool.false_eq_true, not_true_eq_false, not_false_eq_true, List.contains_cons, List.contains_nil, Nat.reduceBEq, Bool.true_or, Bool.false_or, Bool.or_true, List.set_cons_zero, List.set_cons_succ, List.length_cons, List.length_nil, isLd, Bool.true_and, Bool.false_and, Bool.and_true, Bool.and_false, rd_sub sA f0, rd_sub sA f1]
    refine ⟨ld2 sA, by intro v hv; simp at hv; subst hv; rfl, fun b0 hb0 => ?_⟩
    have s0 := sA.trans (Sub.put hb0 ⟨([0] : List Int).map I64, true⟩)
    refine ⟨⟨ld2 s0, ld2 s0⟩, ?_⟩
    refine min0 s0 (put_same _ _ _) ?_
    simp (maxSteps := 300000) (disch := omega) only [gs, gs2, gs3, ↓reduceIte, Nat.reduceEqDiff, Nat.mul_one, Nat.add_zero, Nat.zero_add, Nat.zero_mul, Int.toNat_natCast, Int.reduceToNat, Nat.reduceMul, Nat.reduceAdd, decide_true, decide_false, Bool.not_true, Bool.not_false, true_and, and_true, List.map_cons, List.map_nil, List.nil_append, List.cons_append, List.append_nil, Option.map_some, Option.bind_some, List.getElem?_cons_zero, List.getElem?_cons_succ, Bool.false_eq_true, not_true_eq_false, not_false_eq_true, List.contains_cons, List.contains_nil, Nat.reduceBEq, Bool.true_or, Bool.false_or, Bool.or_true, List.set_cons_zero, List.set_cons_succ, List.length_cons, List.length_nil, isLd, Bool.true_and, Bool.false_and, Bool.and_true, Bool.and_false, rd_sub s0 f0, rd_sub s0 f1]
    refine ⟨ld2 s0, ?_⟩
    refine impl_gcd_ok ⟨by omega, by omega⟩ ⟨by omega, by omega⟩ ?_
    simp (maxSteps := 300000) (disch := omega) only [gs, gs2, gs3, ↓reduceIte, Nat.reduceEqDiff, Nat.mul_one, Nat.add_zero, Nat.zero_add, Nat.zero_mul, Int.toNat_natCast, Int.reduceToNat, Nat.reduceMul, Nat.reduceAdd, decide_true, decide_false, Bool.not_true, Bool.not_false, true_and, and_true, List.map_cons, List.map_nil, List.nil_append, List.cons_append, List.append_nil, Option.map_some, Option.bind_some, List.getElem?_cons_zero, List.getElem?_cons_succ, Bool.false_eq_true, not_true_eq_false, not_false_eq_true, List.contains_cons, List.contains_nil, Nat.reduceBEq, Bool.true_or, Bool.false_or, Bool.or_true, List.set_cons_zero, List.set_cons_succ, List.length_cons, List.length_nil, isLd, Bool.true_and, Bool.false_and, Bool.and_true, Bool.and_false, q1, q2]
    exact ⟨G, s1.trans s0, hk⟩
  · have sA := Sub.put hbA ⟨([a, b] : List Int).map I64, true⟩
    have s0 := sA.trans (Sub.put hb0 ⟨([0] : List Int).map I64, true⟩)
    refine ⟨⟨ld2 s0, ld2 s0⟩, ?_⟩
    refine minAB s0 (Sub.put hb0 _ _ _ (put_same _ _ _)) ?_
    simp (maxSteps := 300000) (disch := omega) only [gs, gs2, gs3, ↓reduceIte, Nat.reduceEqDiff, Nat.mul_one, Nat.add_zero, Nat.zero_add, Nat.zero_mul, Int.toNat_natCast, Int.reduceToNat, Nat.reduceMul, Nat.reduceAdd, decide_true, decide_false, Bool.not_true, Bool.not_false, true_and, and_true, List.map_cons, List.map_nil, List.nil_append, List.cons_append, List.append_nil, Option.map_some, Option.bind_some, List.getElem?_cons_zero, List.getElem?_cons_succ, Bool.false_eq_true, not_true_eq_false, not_false_eq_true, List.contains_cons, List.contains_nil, Nat.reduceBEq, Bool.true_or, Bool.false_or, Bool.or_true, List.set_cons_zero, List.set_cons_succ, List.length_cons, List.length_nil, isLd, Bool.true_and, Bool.false_and, Bool.and_true, Bool.and_false, rd_sub s0 f0, rd_sub s0 f1]
    refine ⟨ld2 s0, ?_⟩
    refine min0 s0 (put_same _ _ _) ?_
    simp (maxSteps := 300000) (disch := omega) only [gs, gs2, gs3, ↓reduceIte, Nat.reduceEqDiff, Nat.mul_one, Nat.add_zero, Nat.zero_add, Nat.zero_mul, Int.toNat_natCast, Int.reduceToNat, Nat.reduceMul, Nat.reduceAdd, decide_true, decide_false, Bool.not_true, Bool.not_false, true_and, and_true, List.map_cons, List.map_nil, List.nil_append, List.cons_append, List.append_nil, Option.map_some, Option.bind_some, List.getElem?_cons_zero, List.getElem?_cons_succ, Bool.false_eq_true, not_true_eq_false, not_false_eq_true, List.contains_cons, List.contains_nil, Nat.reduceBEq, Bool.true_or, Bool.false_or, Bool.or_true, List.set_cons_zero, List.set_cons_succ, List.length_cons, List.length_nil, isLd, Bool.true_and, Bool.false_and, Bool.and_true, Bool.and_false, rd_sub s0 f0, rd_sub s0 f1]
    refine ⟨ld2 s0, ?_⟩
    refine impl_gcd_ok ⟨by omega, by omega⟩ ⟨by omega, by omega⟩ ?_
    simp (maxSteps := 300000) (disch := omega) only [gs, gs2, gs3, ↓reduceIte, Nat.reduceEqDiff, Nat.mul_one, Nat.add_zero, Nat.zero_add, Nat.zero_mul, Int.toNat_natCast, Int.reduceToNat, Nat.reduceMul, Nat.reduceAdd, decide_true, decide_false, Bool.not_true, Bool.not_false, true_and, and_true, List.map_cons, List.map_nil, List.nil_append, List.cons_append, List.append_nil, Option.map_some, Option.bind_some, List.getElem?_cons_zero, List.getElem?_cons_succ, Bool.false_eq_true, not_true_eq_false, not_false_eq_true, List.contains_cons, List.contains_nil, Nat.reduceBEq, Bool.true_or, Bool.false_or, Bool.or_true, List.set_cons_zero, List.set_cons_succ, List.length_cons, List.length_nil, isLd, Bool.true_and, Bool.false_and, Bool.and_true, Bool.and_false, q1, q2]
    exact ⟨G, s1.trans s0, hk⟩
  · have sA := Sub.put hb0 ⟨([0] : List Int).map I64, true⟩
    refine ⟨⟨ld2 sA, ld2 sA⟩, by intro v hv; simp at hv; rcases hv with rfl | rfl <;> rfl, fun bA hbA => ?_⟩
    have s0 := sA.trans (Sub.put hbA ⟨([a, b] : List Int).map I64, true⟩)
    refine ⟨⟨ld2 s0, ld2 s0⟩, ?_⟩
    refine minAB s0 (put_same _ _ _) ?_
    simp (maxSteps := 300000) (disch := omega) only [gs, gs2, gs3, ↓reduceIte, Nat.reduceEqDiff, Nat.mul_one, Nat.add_zero, Nat.zero_add, Nat.zero_mul, Int.toNat_natCast, Int.reduceToNat, Nat.reduceMul, Nat.reduceAdd, decide_true, decide_false, Bool.not_true, Bool.not_false, true_and, and_true, List.map_cons, List.map_nil, List.nil_append, List.cons_append, List.append_nil, Option.map_some, Option.bind_some, List.getElem?_cons_zero, List.getElem?_cons_succ, Bool.false_eq_true, not_true_eq_false, not_false_eq_true, List.contains_cons, List.contains_nil, Nat.reduceBEq, Bool.true_or, Bool.false_or, Bool.or_true, List.set_cons_zero, List.set_cons_succ, List.length_cons, List.length_nil, isLd, Bool.true_and, Bool.false_and, Bool.and_true, Bool.and_false, rd_sub s0 f0, rd_sub s0 f1]
    refine ⟨ld2 s0, ?_⟩
    refine min0 s0 (Sub.put hbA _ _ _ (put_same _ _ _)) ?_
    simp (maxSteps := 300000) (disch := omega) only [gs, gs2, gs3, ↓reduceIte, Nat.reduceEqDiff, Nat.mul_one, Nat.add_zero, Nat.zero_add, Nat.zero_mul, Int.toNat_natCast, Int.reduceToNat, Nat.reduceMul, Nat.reduceAdd, decide_true, decide_false, Bool.not_true, Bool.not_false, true_and, and_true, List.map_cons, List.map_nil, List.nil_append, List.cons_append, List.append_nil, Option.map_some, Option.bind_some, List.getElem?_cons_zero, List.getElem?_cons_succ, Bool.false_eq_true, not_true_eq_false, not_false_eq_true, List.contains_cons, List.contains_nil, Nat.reduceBEq, Bool.true_or, Bool.false_or, Bool.or_true, List.set_cons_zero, List.set_cons_succ, List.length_cons, List.length_nil, isLd, Bool.true_and, Bool.false_and, Bool.and_true, Bool.and_false, rd_sub s0 f0, rd_sub s0 f1]
    refine ⟨ld2 s0, ?_⟩
    refine impl_gcd_ok ⟨by omega, by omega⟩ ⟨by omega, by omega⟩ ?_
    simp (maxSteps := 300000) (disch := omega) only [gs, gs2, gs3, ↓reduceIte, Nat.reduceEqDiff, Nat.mul_one, Nat.add_zero, Nat.zero_add, Nat.zero_mul, Int.toNat_natCast, Int.reduceToNat, Nat.reduceMul, Nat.reduceAdd, decide_true, decide_false, Bool.not_true, Bool.not_false, true_and, and_true, List.map_cons, List.map_nil, List.nil_append, List.cons_append, List.append_nil, Option.map_some, Option.bind_some, List.getElem?_cons_zero, List.getElem?_cons_succ, Bool.false_eq_true, not_true_eq_false, not_false_eq_true, List.contains_cons, List.contains_nil, Nat.reduceBEq, Bool.true_or, Bool.false_or, Bool.or_true, List.set_cons_zero, List.set_cons_succ, List.length_cons, List.length_nil, isLd, Bool.true_and, Bool.false_and, Bool.and_true, Bool.and_false, q1, q2]
    exact ⟨G, s1.trans s0, hk⟩
theorem spec_ResistanceOf_ok {G : GH} {N : Gra} {A : Option Addr} {c : Nat} {a b : Int} (h : T3S G A c N.edges) (hl : N.edges.length < 2 ^ 40) {K : Value → GH → Prop}
    (hk : K (tripV (ohmV N a b)) G) : GC Try.prog 83 [graV N A c, .int .i64 a, .int .i64 b] G K := by
  refine GC_drop (c_spec_ResistanceOf_i (by simp) ?_)
  unfold graV
  simp (maxSteps := 300000) (disch := omega) only [gs, gs2, gs3, ↓reduceIte, Nat.reduceEqDiff, Nat.mul_one, Nat.add_zero, Nat.zero_add, Nat.zero_mul, Int.toNat_natCast, Int.reduceToNat, Nat.reduceMul, Nat.reduceAdd, decide_true, decide_false, Bool.not_true, Bool.not_false, true_and, and_true, List.map_cons, List.map_nil, List.nil_append, List.cons_append, List.append_nil, Option.map_some, Option.bind_some, List.getElem?_cons_zero, List.getElem?_cons_succ, Bool.false_eq_true, not_true_eq_false, not_false_eq_true, List.contains_cons, List.contains_nil, Nat.reduceBEq, Bool.true_or, Bool.false_or, Bool.or_true, List.set_cons_zero, List.set_cons_succ, List.length_cons, List.length_nil, isLd, Bool.true_and, Bool.false_and, Bool.and_true, Bool.and_false]
  intro b1 hb1
  simp (maxSteps := 300000) (disch := omega) only [gs, gs2, gs3, ↓reduceIte, Nat.reduceEqDiff, Nat.mul_one, Nat.add_zero, Nat.zero_add, Nat.zero_mul, Int.toNat_natCast, Int.reduceToNat, Nat.reduceMul, Nat.reduceAdd, decide_true, decide_false, Bool.not_true, Bool.not_false, true_and, and_true, List.map_cons, List.map_nil, List.nil_append, List.cons_append, List.append_nil, Option.map_some, Option.bind_some, List.getElem?_cons_zero, List.getElem?_cons_succ, Bool.false_eq_true, not_true_eq_false, not_false_eq_true, List.contains_cons, List.contains_nil, Nat.reduceBEq, Bool.true_or, Bool.false_or, Bool.or_true, List.set_cons_zero, List.set_cons_succ, List.length_cons, List.length_nil, isLd, Bool.true_and, Bool.false_and, Bool.and_true, Bool.and_false]
  have hP := GraP.box hb1 h
  have s1 := Sub.put hb1 ⟨graC N A c, true⟩
  revert hP s1
  generalize put G b1 ⟨graC N A c, true⟩ = G1
  intro hP s1
  have f0 := hP.f0
  refine spec_l16Ok_ok hP hl fun bb hbb => ?_
  cases bb
  · simp (maxSteps := 300000) (disch := omega) only [gs, gs2, gs3, ↓reduceIte, Nat.reduceEqDiff, Nat.mul_one, Nat.add_zero, Nat.zero_add, Nat.zero_mul, Int.toNat_natCast, Int.reduceToNat, Nat.reduceMul, Nat.reduceAdd, decide_true, decide_false, Bool.not_true, Bool.not_false, true_and, and_true, List.map_cons, List.map_nil, List.nil_append, List.cons_append, List.append_nil, Option.map_some, Option.bind_some, List.getElem?_cons_zero, List.getElem?_cons_succ, Bool.false_eq_true, not_true_eq_false, not_false_eq_true, List.contains_cons, List.contains_nil, Nat.reduceBEq, Bool.true_or, Bool.false_or, Bool.or_true, List.set_cons_zero, List.set_cons_succ, List.length_cons, List.length_nil, isLd, Bool.true_and, Bool.false_and, Bool.and_true, Bool.and_false]
    have : ohmV N a b = (0, 0, 1) := by unfold ohmV; rw [if_pos fun x => by have := hbb.2 x; cases this]
    rw [this] at hk
    exact ⟨G, s1, hk⟩
  have hn := hbb.1 rfl
  have hn1 := hn.1
  simp (maxSteps := 300000) (disch := omega) only [gs, gs2, gs3, ↓reduceIte, Nat.reduceEqDiff, Nat.mul_one, Nat.add_zero, Nat.zero_add, Nat.zero_mul, Int.toNat_natCast, Int.reduceToNat, Nat.reduceMul, Nat.reduceAdd, decide_true, decide_false, Bool.not_true, Bool.not_false, true_and, and_true, List.map_cons, List.map_nil, List.nil_append, List.cons_append, List.append_nil, Option.map_some, Option.bind_some, List.getElem?_cons_zero, List.getElem?_cons_succ, Bool.false_eq_true, not_true_eq_false, not_false_eq_true, List.contains_cons, List.contains_nil, Nat.reduceBEq, Bool.true_or, Bool.false_or, Bool.or_true, List.set_cons_zero, List.set_cons_succ, List.length_cons, List.length_nil, isLd, Bool.true_and, Bool.false_and, Bool.and_true, Bool.and_false, f0]
  refine spec_l00In_ok _ _ _ ?_
  simp (maxSteps := 300000) (disch := omega) only [gs, gs2, gs3, ↓reduceIte, Nat.reduceEqDiff, Nat.mul_one, Nat.add_zero, Nat.zero_add, Nat.zero_mul, Int.toNat_natCast, Int.reduceToNat, Nat.reduceMul, Nat.reduceAdd, decide_true, decide_false, Bool.not_true, Bool.not_false, true_and, and_true, List.map_cons, List.map_nil, List.nil_append, List.cons_append, List.append_nil, Option.map_some, Option.bind_some, List.getElem?_cons_zero, List.getElem?_cons_succ, Bool.false_eq_true, not_true_eq_false, not_false_eq_true, List.contains_cons, List.contains_nil, Nat.reduceBEq, Bool.true_or, Bool.false_or, Bool.or_true, List.set_cons_zero, List.set_cons_succ, List.length_cons, List.length_nil, isLd, Bool.true_and, Bool.false_and, Bool.and_true, Bool.and_false, f0]
  by_cases ga : 0 ≤ a ∧ a ≤ N.n - 1
  rotate_left
  · rw [decide_eq_false ga]
    simp (maxSteps := 300000) (disch := omega) only [gs, gs2, gs3, ↓reduceIte, Nat.reduceEqDiff, Nat.mul_one, Nat.add_zero, Nat.zero_add, Nat.zero_mul, Int.toNat_natCast, Int.reduceToNat, Nat.reduceMul, Nat.reduceAdd, decide_true, decide_false, Bool.not_true, Bool.not_false, true_and, and_true, List.map_cons, List.map_nil, List.nil_append, List.cons_append, List.append_nil, Option.map_some, Option.bind_some, List.getElem?_cons_zero, List.getElem?_cons_succ, Bool.false_eq_true, not_true_eq_false, not_false_eq_true, List.contains_cons, List.contains_nil, Nat.reduceBEq, Bool.true_or, Bool.false_or, Bool.or_true, List.set_cons_zero, List.set_cons_succ, List.length_cons, List.length_nil, isLd, Bool.true_and, Bool.false_and, Bool.and_true, Bool.and_false, f0]
    have : ohmV N a b = (0, 0, 2) := by unfold ohmV; rw [if_neg (fun x => x hn), if_pos (by omega)]
    rw [this] at hk
    exact ⟨G, s1, hk⟩
  rw [decide_eq_true ga]
  simp (maxSteps := 300000) (disch := omega) only [gs, gs2, gs3, ↓reduceIte, Nat.reduceEqDiff, Nat.mul_one, Nat.add_zero, Nat.zero_add, Nat.zero_mul, Int.toNat_natCast, Int.reduceToNat, Nat.reduceMul, Nat.reduceAdd, decide_true, decide_false, Bool.not_true, Bool.not_false, true_and, and_true, List.map_cons, List.map_nil, List.nil_append, List.cons_append, List.append_nil, Option.map_some, Option.bind_some, List.getElem?_cons_zero, List.getElem?_cons_succ, Bool.false_eq_true, not_true_eq_false, not_false_eq_true, List.contains_cons, List.contains_nil, Nat.reduceBEq, Bool.true_or, Bool.false_or, Bool.or_true, List.set_cons_zero, List.set_cons_succ, List.length_cons, List.length_nil, isLd, Bool.true_and, Bool.false_and, Bool.and_true, Bool.and_false, f0]
  refine spec_l00In_ok _ _ _ ?_
  simp (maxSteps := 300000) (disch := omega) only [gs, gs2, gs3, ↓reduceIte, Nat.reduceEqDiff, Nat.mul_one, Nat.add_zero, Nat.zero_add, Nat.zero_mul, Int.toNat_natCast, Int.reduceToNat, Nat.reduceMul, Nat.reduceAdd, decide_true, decide_false, Bool.not_true, Bool.not_false, true_and, and_true, List.map_cons, List.map_nil, List.nil_append, List.cons_append, List.append_nil, Option.map_some, Option.bind_some, List.getElem?_cons_zero, List.getElem?_cons_succ, Bool.false_eq_true, not_true_eq_false, not_false_eq_true, List.contains_cons, List.contains_nil, Nat.reduceBEq, Bool.true_or, Bool.false_or, Bool.or_true, List.set_cons_zero, List.set_cons_succ, List.length_cons, List.length_nil, isLd, Bool.true_and, Bool.false_and, Bool.and_true, Bool.and_false, f0]
  by_cases gb : 0 ≤ b ∧ b ≤ N.n - 1
  rotate_left
  · rw [decide_eq_false gb]
    simp (maxSteps := 300000) (disch := omega) only [gs, gs2, gs3, ↓reduceIte, Nat.reduceEqDiff, Nat.mul_one, Nat.add_zero, Nat.zero_add, Nat.zero_mul, Int.toNat_natCast, Int.reduceToNat, Nat.reduceMul, Nat.reduceAdd, decide_true, decide_false, Bool.not_true, Bool.not_false, true_and, and_true, List.map_cons, List.map_nil, List.nil_append, List.cons_append, List.append_nil, Option.map_some, Option.bind_some, List.getElem?_cons_zero, List.getElem?_cons_succ, Bool.false_eq_true, not_true_eq_false, not_false_eq_true, List.contains_cons, List.contains_nil, Nat.reduceBEq, Bool.true_or, Bool.false_or, Bool.or_true, List.set_cons_zero, List.set_cons_succ, List.length_cons, List.length_nil, isLd, Bool.true_and, Bool.false_and, Bool.and_true, Bool.and_false, f0]
    have : ohmV N a b = (0, 0, 2) := by unfold ohmV; rw [if_neg (fun x => x hn), if_pos (by omega)]
    rw [this] at hk
    exact ⟨G, s1, hk⟩
  rw [decide_eq_true gb]
  simp (maxSteps := 300000) (disch := omega) only [gs, gs2, gs3, ↓reduceIte, Nat.reduceEqDiff, Nat.mul_one, Nat.add_zero, Nat.zero_add, Nat.zero_mul, Int.toNat_natCast, Int.reduceToNat, Nat.reduceMul, Nat.reduceAdd, decide_true, decide_false, Bool.not_true, Bool.not_false, true_and, and_true, List.map_cons, List.map_nil, List.nil_append, List.cons_append, List.append_nil, Option.map_some, Option.bind_some, List.getElem?_cons_zero, List.getElem?_cons_succ, Bool.false_eq_true, not_true_eq_false, not_false_eq_true, List.contains_cons, List.contains_nil, Nat.reduceBEq, Bool.true_or, Bool.false_or, Bool.or_true, List.set_cons_zero, List.set_cons_succ, List.length_cons, List.length_nil, isLd, Bool.true_and, Bool.false_and, Bool.and_true, Bool.and_false, f0]
  have e0 : ohmV N a b = if dt (keep N.n.toNat [0]).length (sub (keep N.n.toNat [0]) (lapK N.edges N.edges.length)) = 0 then (0, 0, 6) else if a = b then (0, 1, 0)
    else (dt (keep N.n.toNat [a, b]).length (sub (keep N.n.toNat [a, b]) (lapK N.edges N.edges.length)) / (Nat.gcd (dt (keep N.n.toNat [a, b]).length (sub (keep N.n.toNat [a, b]) (lapK N.edges N.edges.length))).toNat (dt (keep N.n.toNat [0]).length (sub (keep N.n.toNat [0]) (lapK N.edges N.edges.length))).toNat : Nat),
    dt (keep N.n.toNat [0]).length (sub (keep N.n.toNat [0]) (lapK N.edges N.edges.length)) / (Nat.gcd (dt (keep N.n.toNat [a, b]).length (sub (keep N.n.toNat [a, b]) (lapK N.edges N.edges.length))).toNat (dt (keep N.n.toNat [0]).length (sub (keep N.n.toNat [0]) (lapK N.edges N.edges.length))).toNat : Nat), 0) := by
    unfold ohmV; rw [if_neg (fun x => x hn), if_neg (by omega)]
  refine spec_l16Rows_ok hP hn fun G2 bO B cp cb rs ro hM _ => ?_
  simp (maxSteps := 300000) (disch := omega) only [gs, gs2, gs3, ↓reduceIte, Nat.reduceEqDiff, Nat.mul_one, Nat.add_zero, Nat.zero_add, Nat.zero_mul, Int.toNat_natCast, Int.reduceToNat, Nat.reduceMul, Nat.reduceAdd, decide_true, decide_false, Bool.not_true, Bool.not_false, true_and, and_true, List.map_cons, List.map_nil, List.nil_append, List.cons_append, List.append_nil, Option.map_some, Option.bind_some, List.getElem?_cons_zero, List.getElem?_cons_succ, Bool.false_eq_true, not_true_eq_false, not_false_eq_true, List.contains_cons, List.contains_nil, Nat.reduceBEq, Bool.true_or, Bool.false_or, Bool.or_true, List.set_cons_zero, List.set_cons_succ, List.length_cons, List.length_nil, isLd, Bool.true_and, Bool.false_and, Bool.and_true, Bool.and_false, gBs]
  refine ⟨by intro v hv; simp at hv; subst hv; rfl, fun b7 hb7 => ?_⟩
  have s7 := Sub.put hb7 ⟨([0] : List Int).map I64, true⟩
  have hO : IntS (put G2 b7 ⟨([0] : List Int).map I64, true⟩) (some ⟨b7, 0, none⟩) 1 [0] := blk_ints (xs := [0]) (put_same _ _ _)
  have hM := hM.up s7
  have hd0 := minor_bd hn [0] (keep0 hn)
  have hk11 := keep0 hn
  refine spec_l16Minor_ok (om := [0]) (L := lapK N.edges N.edges.length) hO (by simp) (by omega) (fun i hi => hM.get hi) (fun i j hi hj => hM.cell hi hj) fun G3 Bo cb' s3 hR _ => ?_
  simp (maxSteps := 300000) (disch := omega) only [gs, gs2, gs3, ↓reduceIte, Nat.reduceEqDiff, Nat.mul_one, Nat.add_zero, Nat.zero_add, Nat.zero_mul, Int.toNat_natCast, Int.reduceToNat, Nat.reduceMul, Nat.reduceAdd, decide_true, decide_false, Bool.not_true, Bool.not_false, true_and, and_true, List.map_cons, List.map_nil, List.nil_append, List.cons_append, List.append_nil, Option.map_some, Option.bind_some, List.getElem?_cons_zero, List.getElem?_cons_succ, Bool.false_eq_true, not_true_eq_false, not_false_eq_true, List.contains_cons, List.contains_nil, Nat.reduceBEq, Bool.true_or, Bool.false_or, Bool.or_true, List.set_cons_zero, List.set_cons_succ, List.length_cons, List.length_nil, isLd, Bool.true_and, Bool.false_and, Bool.and_true, Bool.and_false]
  refine spec_l16Exact_ok hR (by omega) hd0 ?_
  have sG3 := (s1.trans hM.sub).trans s3
  simp (maxSteps := 300000) (disch := omega) only [gs, gs2, gs3, ↓reduceIte, Nat.reduceEqDiff, Nat.mul_one, Nat.add_zero, Nat.zero_add, Nat.zero_mul, Int.toNat_natCast, Int.reduceToNat, Nat.reduceMul, Nat.reduceAdd, decide_true, decide_false, Bool.not_true, Bool.not_false, true_and, and_true, List.map_cons, List.map_nil, List.nil_append, List.cons_append, List.append_nil, Option.map_some, Option.bind_some, List.getElem?_cons_zero, List.getElem?_cons_succ, Bool.false_eq_true, not_true_eq_false, not_false_eq_true, List.contains_cons, List.contains_nil, Nat.reduceBEq, Bool.true_or, Bool.false_or, Bool.or_true, List.set_cons_zero, List.set_cons_succ, List.length_cons, List.length_nil, isLd, Bool.true_and, Bool.false_and, Bool.and_true, Bool.and_false]
  by_cases hz : dt (keep N.n.toNat [0]).length (sub (keep N.n.toNat [0]) (lapK N.edges N.edges.length)) = 0
  · simp (maxSteps := 300000) (disch := omega) only [gs, gs2, gs3, ↓reduceIte, Nat.reduceEqDiff, Nat.mul_one, Nat.add_zero, Nat.zero_add, Nat.zero_mul, Int.toNat_natCast, Int.reduceToNat, Nat.reduceMul, Nat.reduceAdd, decide_true, decide_false, Bool.not_true, Bool.not_false, true_and, and_true, List.map_cons, List.map_nil, List.nil_append, List.cons_append, List.append_nil, Option.map_some, Option.bind_some, List.getElem?_cons_zero, List.getElem?_cons_succ, Bool.false_eq_true, not_true_eq_false, not_false_eq_true, List.contains_cons, List.contains_nil, Nat.reduceBEq, Bool.true_or, Bool.false_or, Bool.or_true, List.set_cons_zero, List.set_cons_succ, List.length_cons, List.length_nil, isLd, Bool.true_and, Bool.false_and, Bool.and_true, Bool.and_false, eq_true hz]
    rw [e0, if_pos hz] at hk
    exact ⟨G, sG3, hk⟩
  rw [if_neg hz] at e0
  simp (maxSteps := 300000) (disch := omega) only [gs, gs2, gs3, ↓reduceIte, Nat.reduceEqDiff, Nat.mul_one, Nat.add_zero, Nat.zero_add, Nat.zero_mul, Int.toNat_natCast, Int.reduceToNat, Nat.reduceMul, Nat.reduceAdd, decide_true, decide_false, Bool.not_true, Bool.not_false, true_and, and_true, List.map_cons, List.map_nil, List.nil_append, List.cons_append, List.append_nil, Option.map_some, Option.bind_some, List.getElem?_cons_zero, List.getElem?_cons_succ, Bool.false_eq_true, not_true_eq_false, not_false_eq_true, List.contains_cons, List.contains_nil, Nat.reduceBEq, Bool.true_or, Bool.false_or, Bool.or_true, List.set_cons_zero, List.set_cons_succ, List.length_cons, List.length_nil, isLd, Bool.true_and, Bool.false_and, Bool.and_true, Bool.and_false, eq_false hz]
  by_cases gab : a = b
  · simp (maxSteps := 300000) (disch := omega) only [gs, gs2, gs3, ↓reduceIte, Nat.reduceEqDiff, Nat.mul_one, Nat.add_zero, Nat.zero_add, Nat.zero_mul, Int.toNat_natCast, Int.reduceToNat, Nat.reduceMul, Nat.reduceAdd, decide_true, decide_false, Bool.not_true, Bool.not_false, true_and, and_true, List.map_cons, List.map_nil, List.nil_append, List.cons_append, List.append_nil, Option.map_some, Option.bind_some, List.getElem?_cons_zero, List.getElem?_cons_succ, Bool.false_eq_true, not_true_eq_false, not_false_eq_true, List.contains_cons, List.contains_nil, Nat.reduceBEq, Bool.true_or, Bool.false_or, Bool.or_true, List.set_cons_zero, List.set_cons_succ, List.length_cons, List.length_nil, isLd, Bool.true_and, Bool.false_and, Bool.and_true, Bool.and_false, eq_true gab]
    rw [e0, if_pos gab] at hk
    exact ⟨G, sG3, hk⟩
  rw [if_neg gab] at e0
  simp (maxSteps := 300000) (disch := omega) only [gs, gs2, gs3, ↓reduceIte, Nat.reduceEqDiff, Nat.mul_one, Nat.add_zero, Nat.zero_add, Nat.zero_mul, Int.toNat_natCast, Int.reduceToNat, Nat.reduceMul, Nat.reduceAdd, decide_true, decide_false, Bool.not_true, Bool.not_false, true_and, and_true, List.map_cons, List.map_nil, List.nil_append, List.cons_append, List.append_nil, Option.map_some, Option.bind_some, List.getElem?_cons_zero, List.getElem?_cons_succ, Bool.false_eq_true, not_true_eq_false, not_false_eq_true, List.contains_cons, List.contains_nil, Nat.reduceBEq, Bool.true_or, Bool.false_or, Bool.or_true, List.set_cons_zero, List.set_cons_succ, List.length_cons, List.length_nil, isLd, Bool.true_and, Bool.false_and, Bool.and_true, Bool.and_false, eq_false gab, gBs]
  refine ⟨by intro v hv; simp at hv; rcases hv with rfl | rfl <;> rfl, fun b8 hb8 => ?_⟩
  have s8 := Sub.put hb8 ⟨([a, b] : List Int).map I64, true⟩
  have hO2 : IntS (put G3 b8 ⟨([a, b] : List Int).map I64, true⟩) (some ⟨b8, 0, none⟩) 2 [a, b] := blk_ints (xs := [a, b]) (put_same _ _ _)
  have hM2 := (hM.up s3).up s8
  have hdn := minor_bd hn [a, b] (keep2 hn (a := a) (b := b) (by omega))
  have hk12 := keep2 hn (a := a) (b := b) (by omega)
  refine spec_l16Minor_ok (om := [a, b]) (L := lapK N.edges N.edges.length) hO2 (by simp) (by omega) (fun i hi => hM2.get hi) (fun i j hi hj => hM2.cell hi hj) fun G4 Bo2 cb2 s4 hR2 _ => ?_
  simp (maxSteps := 300000) (disch := omega) only [gs, gs2, gs3, ↓reduceIte, Nat.reduceEqDiff, Nat.mul_one, Nat.add_zero, Nat.zero_add, Nat.zero_mul, Int.toNat_natCast, Int.reduceToNat, Nat.reduceMul, Nat.reduceAdd, decide_true, decide_false, Bool.not_true, Bool.not_false, true_and, and_true, List.map_cons, List.map_nil, List.nil_append, List.cons_append, List.append_nil, Option.map_some, Option.bind_some, List.getElem?_cons_zero, List.getElem?_cons_succ, Bool.false_eq_true, not_true_eq_false, not_false_eq_true, List.contains_cons, List.contains_nil, Nat.reduceBEq, Bool.true_or, Bool.false_or, Bool.or_true, List.set_cons_zero, List.set_cons_succ, List.length_cons, List.length_nil, isLd, Bool.true_and, Bool.false_and, Bool.and_true, Bool.and_false]
  refine spec_l16Exact_ok hR2 (by omega) hdn ?_
  have sG4 := (sG3.trans s8).trans s4
  simp (maxSteps := 300000) (disch := omega) only [gs, gs2, gs3, ↓reduceIte, Nat.reduceEqDiff, Nat.mul_one, Nat.add_zero, Nat.zero_add, Nat.zero_mul, Int.toNat_natCast, Int.reduceToNat, Nat.reduceMul, Nat.reduceAdd, decide_true, decide_false, Bool.not_true, Bool.not_false, true_and, and_true, List.map_cons, List.map_nil, List.nil_append, List.cons_append, List.append_nil, Option.map_some, Option.bind_some, List.getElem?_cons_zero, List.getElem?_cons_succ, Bool.false_eq_true, not_true_eq_false, not_false_eq_true, List.contains_cons, List.contains_nil, Nat.reduceBEq, Bool.true_or, Bool.false_or, Bool.or_true, List.set_cons_zero, List.set_cons_succ, List.length_cons, List.length_nil, isLd, Bool.true_and, Bool.false_and, Bool.and_true, Bool.and_false]
  obtain ⟨x, hx⟩ : ∃ x, x = dt (keep N.n.toNat [a, b]).length (sub (keep N.n.toNat [a, b]) (lapK N.edges N.edges.length)) := ⟨_, rfl⟩
  obtain ⟨y, hy⟩ : ∃ y, y = dt (keep N.n.toNat [0]).length (sub (keep N.n.toNat [0]) (lapK N.edges N.edges.length)) := ⟨_, rfl⟩
  rw [← hx, ← hy] at e0
  rw [← hx] at hdn
  rw [← hy] at hd0 hz
  rw [e0] at hk
  rw [← hx, ← hy]
  have hgp : 0 < Nat.gcd x.toNat y.toNat := Nat.gcd_pos_of_pos_right _ (by omega)
  have q1 := quo_ok (x := x) (g := (Nat.gcd x.toNat y.toNat : Nat)) ⟨by omega, by omega⟩ (by omega)
  have q2 := quo_ok (x := y) (g := (Nat.gcd x.toNat y.toNat : Nat)) ⟨by omega, by omega⟩ (by omega)
  refine spec_l16Gcd_ok ⟨by omega, by omega⟩ ⟨by omega, by omega⟩ ?_
  simp (maxSteps := 300000) (disch := omega) only [gs, gs2, gs3, ↓reduceIte, Nat.reduceEqDiff, Nat.mul_one, Nat.add_zero, Nat.zero_add, Nat.zero_mul, Int.toNat_natCast, Int.reduceToNat, Nat.reduceMul, Nat.reduceAdd, decide_true, decide_false, Bool.not_true, Bool.not_false, true_and, and_true, List.map_cons, List.map_nil, List.nil_append, List.cons_append, List.append_nil, Option.map_some, Option.bind_some, List.getElem?_cons_zero, List.getElem?_cons_succ, Bool.false_eq_true, not_true_eq_false, not_false_eq_true, List.contains_cons, List.contains_nil, Nat.reduceBEq, Bool.true_or, Bool.false_or, Bool.or_true, List.set_cons_zero, List.set_cons_succ, List.length_cons, List.length_nil, isLd, Bool.true_and, Bool.false_and, Bool.and_true, Bool.and_false, q1, q2]
  exact ⟨G, sG4, hk⟩
theorem law_ResistanceOf {G : GH} {v0 : Value} {v1 : Value} {v2 : Value} {x0 : Gra} {x1 : Int} {x2 : Int} (h0 : GraphV G v0 x0) (h1 : IntV G v1 x1) (h2 : IntV G v2 x2) : GC Try.prog 20 [v0, v1, v2] G fun v _ => v = .bool true := by
  obtain ⟨A0, c0, rfl, h0, e0, l0, rn0⟩ := h0
  obtain ⟨rfl, e1⟩ := h1
  obtain ⟨rfl, e2⟩ := h2
  refine c_laws_FnExactResistanceOf_i (by simp) ?_
  unfold graV graC
  simp (maxSteps := 300000) (disch := omega) only [gs, gs2, gs3, ↓reduceIte, Nat.reduceEqDiff, Nat.mul_one, Nat.add_zero, Nat.zero_add, Nat.zero_mul, Int.toNat_natCast, Int.reduceToNat, Nat.reduceMul, Nat.reduceAdd, decide_true, decide_false, Bool.not_true, Bool.not_false, true_and, and_true, List.map_cons, List.map_nil, List.nil_append, List.cons_append, List.append_nil, Option.map_some, Option.bind_some, List.getElem?_cons_zero, List.getElem?_cons_succ, Bool.false_eq_true, not_true_eq_false, not_false_eq_true, List.contains_cons, List.contains_nil, Nat.reduceBEq, Bool.true_or, Bool.false_or, Bool.or_true, List.set_cons_zero, List.set_cons_succ, List.length_cons, List.length_nil, isLd, Bool.true_and, Bool.false_and, Bool.and_true, Bool.and_false]
  intro p0 hp0
  generalize hG1 : put G p0 ⟨[.int .i64 x0.n, .slice A0 x0.edges.length c0], true⟩ = G1
  have s1 : Sub G G1 := hG1 ▸ Sub.put hp0 _
  have h0 := h0.sub s1
  have fa0_0 : rd G1 (some ⟨p0, 0, none⟩) = some (.int .i64 x0.n) := by rw [← hG1]; exact rd_box _ _ _ 0 _ rfl
  have fa0_1 : rd G1 (some ⟨p0, 1, none⟩) = some (.slice A0 x0.edges.length c0) := by rw [← hG1]; exact rd_box _ _ _ 1 _ rfl
  simp (maxSteps := 300000) (disch := omega) only [gs, gs2, gs3, ↓reduceIte, Nat.reduceEqDiff, Nat.mul_one, Nat.add_zero, Nat.zero_add, Nat.zero_mul, Int.toNat_natCast, Int.reduceToNat, Nat.reduceMul, Nat.reduceAdd, decide_true, decide_false, Bool.not_true, Bool.not_false, true_and, and_true, List.map_cons, List.map_nil, List.nil_append, List.cons_append, List.append_nil, Option.map_some, Option.bind_some, List.getElem?_cons_zero, List.getElem?_cons_succ, Bool.false_eq_true, not_true_eq_false, not_false_eq_true, List.contains_cons, List.contains_nil, Nat.reduceBEq, Bool.true_or, Bool.false_or, Bool.or_true, List.set_cons_zero, List.set_cons_succ, List.length_cons, List.length_nil, isLd, Bool.true_and, Bool.false_and, Bool.and_true, Bool.and_false, fa0_0, fa0_1]
  refine laws_szGraph_ok (N := x0) ⟨by omega, by omega⟩ (by omega) fun q0 q0a q0b q0c => ?_
  simp (maxSteps := 300000) (disch := omega) only [gs, gs2, gs3, ↓reduceIte, Nat.reduceEqDiff, Nat.mul_one, Nat.add_zero, Nat.zero_add, Nat.zero_mul, Int.toNat_natCast, Int.reduceToNat, Nat.reduceMul, Nat.reduceAdd, decide_true, decide_false, Bool.not_true, Bool.not_false, true_and, and_true, List.map_cons, List.map_nil, List.nil_append, List.cons_append, List.append_nil, Option.map_some, Option.bind_some, List.getElem?_cons_zero, List.getElem?_cons_succ, Bool.false_eq_true, not_true_eq_false, not_false_eq_true, List.contains_cons, List.contains_nil, Nat.reduceBEq, Bool.true_or, Bool.false_or, Bool.or_true, List.set_cons_zero, List.set_cons_succ, List.length_cons, List.length_nil, isLd, Bool.true_and, Bool.false_and, Bool.and_true, Bool.and_false, fa0_0, fa0_1]
  by_cases g0 : q0 < 0
  · simp (maxSteps := 300000) (disch := omega) only [gs, gs2, gs3, ↓reduceIte, Nat.reduceEqDiff, Nat.mul_one, Nat.add_zero, Nat.zero_add, Nat.zero_mul, Int.toNat_natCast, Int.reduceToNat, Nat.reduceMul, Nat.reduceAdd, decide_true, decide_false, Bool.not_true, Bool.not_false, true_and, and_true, List.map_cons, List.map_nil, List.nil_append, List.cons_append, List.append_nil, Option.map_some, Option.bind_some, List.getElem?_cons_zero, List.getElem?_cons_succ, Bool.false_eq_true, not_true_eq_false, not_false_eq_true, List.contains_cons, List.contains_nil, Nat.reduceBEq, Bool.true_or, Bool.false_or, Bool.or_true, List.set_cons_zero, List.set_cons_succ, List.length_cons, List.length_nil, isLd, Bool.true_and, Bool.false_and, Bool.and_true, Bool.and_false, g0, fa0_0, fa0_1]
  simp (maxSteps := 300000) (disch := omega) only [gs, gs2, gs3, ↓reduceIte, Nat.reduceEqDiff, Nat.mul_one, Nat.add_zero, Nat.zero_add, Nat.zero_mul, Int.toNat_natCast, Int.reduceToNat, Nat.reduceMul, Nat.reduceAdd, decide_true, decide_false, Bool.not_true, Bool.not_false, true_and, and_true, List.map_cons, List.map_nil, List.nil_append, List.cons_append, List.append_nil, Option.map_some, Option.bind_some, List.getElem?_cons_zero, List.getElem?_cons_succ, Bool.false_eq_true, not_true_eq_false, not_false_eq_true, List.contains_cons, List.contains_nil, Nat.reduceBEq, Bool.true_or, Bool.false_or, Bool.or_true, List.set_cons_zero, List.set_cons_succ, List.length_cons, List.length_nil, isLd, Bool.true_and, Bool.false_and, Bool.and_true, Bool.and_false, g0, fa0_0, fa0_1]
  refine laws_toGraph_ok' (N := x0) h0 (by omega) fun As0 G2 s2 hs0 => ?_
  have h0 := h0.sub s2
  have fa0_0 := rd_sub s2 fa0_0
  have fa0_1 := rd_sub s2 fa0_1
  simp (maxSteps := 300000) (disch := omega) only [gs, gs2, gs3, ↓reduceIte, Nat.reduceEqDiff, Nat.mul_one, Nat.add_zero, Nat.zero_add, Nat.zero_mul, Int.toNat_natCast, Int.reduceToNat, Nat.reduceMul, Nat.reduceAdd, decide_true, decide_false, Bool.not_true, Bool.not_false, true_and, and_true, List.map_cons, List.map_nil, List.nil_append, List.cons_append, List.append_nil, Option.map_some, Option.bind_some, List.getElem?_cons_zero, List.getElem?_cons_succ, Bool.false_eq_true, not_true_eq_false, not_false_eq_true, List.contains_cons, List.contains_nil, Nat.reduceBEq, Bool.true_or, Bool.false_or, Bool.or_true, List.set_cons_zero, List.set_cons_succ, List.length_cons, List.length_nil, isLd, Bool.true_and, Bool.false_and, Bool.and_true, Bool.and_false, fa0_0, fa0_1]
  refine spec_ResistanceOf_ok hs0 (by omega) ?_
  simp (maxSteps := 300000) (disch := omega) only [gs, gs2, gs3, ↓reduceIte, Nat.reduceEqDiff, Nat.mul_one, Nat.add_zero, Nat.zero_add, Nat.zero_mul, Int.toNat_natCast, Int.reduceToNat, Nat.reduceMul, Nat.reduceAdd, decide_true, decide_false, Bool.not_true, Bool.not_false, true_and, and_true, List.map_cons, List.map_nil, List.nil_append, List.cons_append, List.append_nil, Option.map_some, Option.bind_some, List.getElem?_cons_zero, List.getElem?_cons_succ, Bool.false_eq_true, not_true_eq_false, not_false_eq_true, List.contains_cons, List.contains_nil, Nat.reduceBEq, Bool.true_or, Bool.false_or, Bool.or_true, List.set_cons_zero, List.set_cons_succ, List.length_cons, List.length_nil, isLd, Bool.true_and, Bool.false_and, Bool.and_true, Bool.and_false, tripV, fa0_0, fa0_1]
  refine laws_toGraph_ok' (N := x0) h0 (by omega) fun Ai0 G3 s3 hi0 => ?_
  have h0 := h0.sub s3
  have hs0 := hs0.sub s3
  have fa0_0 := rd_sub s3 fa0_0
  have fa0_1 := rd_sub s3 fa0_1
  simp (maxSteps := 300000) (disch := omega) only [gs, gs2, gs3, ↓reduceIte, Nat.reduceEqDiff, Nat.mul_one, Nat.add_zero, Nat.zero_add, Nat.zero_mul, Int.toNat_natCast, Int.reduceToNat, Nat.reduceMul, Nat.reduceAdd, decide_true, decide_false, Bool.not_true, Bool.not_false, true_and, and_true, List.map_cons, List.map_nil, List.nil_append, List.cons_append, List.append_nil, Option.map_some, Option.bind_some, List.getElem?_cons_zero, List.getElem?_cons_succ, Bool.false_eq_true, not_true_eq_false, not_false_eq_true, List.contains_cons, List.contains_nil, Nat.reduceBEq, Bool.true_or, Bool.false_or, Bool.or_true, List.set_cons_zero, List.set_cons_succ, List.length_cons, List.length_nil, isLd, Bool.true_and, Bool.false_and, Bool.and_true, Bool.and_false, fa0_0, fa0_1]
  intro p3 hp3
  simp (maxSteps := 300000) (disch := omega) only [gs, gs2, gs3, ↓reduceIte, Nat.reduceEqDiff, Nat.mul_one, Nat.add_zero, Nat.zero_add, Nat.zero_mul, Int.toNat_natCast, Int.reduceToNat, Nat.reduceMul, Nat.reduceAdd, decide_true, decide_false, Bool.not_true, Bool.not_false, true_and, and_true, List.map_cons, List.map_nil, List.nil_append, List.cons_append, List.append_nil, Option.map_some, Option.bind_some, List.getElem?_cons_zero, List.getElem?_cons_succ, Bool.false_eq_true, not_true_eq_false, not_false_eq_true, List.contains_cons, List.contains_nil, Nat.reduceBEq, Bool.true_or, Bool.false_or, Bool.or_true, List.set_cons_zero, List.set_cons_succ, List.length_cons, List.length_nil, isLd, Bool.true_and, Bool.false_and, Bool.and_true, Bool.and_false, fa0_0, fa0_1]
  refine st_fresh (vs := [.int .i64 x0.n, .slice Ai0 x0.edges.length x0.edges.length]) rfl rfl rfl (by intro v hv; simp only [List.mem_cons, List.not_mem_nil, or_false] at hv; rcases hv with rfl | rfl <;> rfl) ?_
  generalize hG4 : put G3 p3 ⟨[.int .i64 x0.n, .slice Ai0 x0.edges.length x0.edges.length], true⟩ = G4
  have s4 : Sub G3 G4 := hG4 ▸ Sub.put hp3 _
  have h0 := h0.sub s4
  have hs0 := hs0.sub s4
  have hi0 := hi0.sub s4
  have fa0_0 := rd_sub s4 fa0_0
  have fa0_1 := rd_sub s4 fa0_1
  have fi0_0 : rd G4 (some ⟨p3, 0, none⟩) = some (.int .i64 x0.n) := by rw [← hG4]; exact rd_box _ _ _ 0 _ rfl
  have fi0_1 : rd G4 (some ⟨p3, 1, none⟩) = some (.slice Ai0 x0.edges.length x0.edges.length) := by rw [← hG4]; exact rd_box _ _ _ 1 _ rfl
  simp (maxSteps := 300000) (disch := omega) only [gs, gs2, gs3, ↓reduceIte, Nat.reduceEqDiff, Nat.mul_one, Nat.add_zero, Nat.zero_add, Nat.zero_mul, Int.toNat_natCast, Int.reduceToNat, Nat.reduceMul, Nat.reduceAdd, decide_true, decide_false, Bool.not_true, Bool.not_false, true_and, and_true, List.map_cons, List.map_nil, List.nil_append, List.cons_append, List.append_nil, Option.map_some, Option.bind_some, List.getElem?_cons_zero, List.getElem?_cons_succ, Bool.false_eq_true, not_true_eq_false, not_false_eq_true, List.contains_cons, List.contains_nil, Nat.reduceBEq, Bool.true_or, Bool.false_or, Bool.or_true, List.set_cons_zero, List.set_cons_succ, List.length_cons, List.length_nil, isLd, Bool.true_and, Bool.false_and, Bool.and_true, Bool.and_false, fa0_0, fa0_1, fi0_0, fi0_1]
  refine impl_ResistanceOf_ok hi0 (by omega) ?_
  simp (maxSteps := 300000) (disch := omega) only [gs, gs2, gs3, ↓reduceIte, Nat.reduceEqDiff, Nat.mul_one, Nat.add_zero, Nat.zero_add, Nat.zero_mul, Int.toNat_natCast, Int.reduceToNat, Nat.reduceMul, Nat.reduceAdd, decide_true, decide_false, Bool.not_true, Bool.not_false, true_and, and_true, List.map_cons, List.map_nil, List.nil_append, List.cons_append, List.append_nil, Option.map_some, Option.bind_some, List.getElem?_cons_zero, List.getElem?_cons_succ, Bool.false_eq_true, not_true_eq_false, not_false_eq_true, List.contains_cons, List.contains_nil, Nat.reduceBEq, Bool.true_or, Bool.false_or, Bool.or_true, List.set_cons_zero, List.set_cons_succ, List.length_cons, List.length_nil, isLd, Bool.true_and, Bool.false_and, Bool.and_true, Bool.and_false, tripV, eq_self, fa0_0, fa0_1, fi0_0, fi0_1]
  refine laws_toGraph_ok' (N := x0) h0 (by omega) fun Ae0 G5 s5 he0 => ?_
  have h0 := h0.sub s5
  have hs0 := hs0.sub s5
  have hi0 := hi0.sub s5
  have fa0_0 := rd_sub s5 fa0_0
  have fa0_1 := rd_sub s5 fa0_1
  have fi0_0 := rd_sub s5 fi0_0
  have fi0_1 := rd_sub s5 fi0_1
  simp (maxSteps := 300000) (disch := omega) only [gs, gs2, gs3, ↓reduceIte, Nat.reduceEqDiff, Nat.mul_one, Nat.add_zero, Nat.zero_add, Nat.zero_mul, Int.toNat_natCast, Int.reduceToNat, Nat.reduceMul, Nat.reduceAdd, decide_true, decide_false, Bool.not_true, Bool.not_false, true_and, and_true, List.map_cons, List.map_nil, List.nil_append, List.cons_append, List.append_nil, Option.map_some, Option.bind_some, List.getElem?_cons_zero, List.getElem?_cons_succ, Bool.false_eq_true, not_true_eq_false, not_false_eq_true, List.contains_cons, List.contains_nil, Nat.reduceBEq, Bool.true_or, Bool.false_or, Bool.or_true, List.set_cons_zero, List.set_cons_succ, List.length_cons, List.length_nil, isLd, Bool.true_and, Bool.false_and, Bool.and_true, Bool.and_false, fa0_0, fa0_1, fi0_0, fi0_1]
  refine laws_eqGraph_ok (N := x0) (M := x0) hi0 he0 (by omega) fun b hb => ?_
  obtain rfl : b = true := hb.2 rfl
  simp (maxSteps := 300000) (disch := omega) only [gs, gs2, gs3, ↓reduceIte, Nat.reduceEqDiff, Nat.mul_one, Nat.add_zero, Nat.zero_add, Nat.zero_mul, Int.toNat_natCast, Int.reduceToNat, Nat.reduceMul, Nat.reduceAdd, decide_true, decide_false, Bool.not_true, Bool.not_false, true_and, and_true, List.map_cons, List.map_nil, List.nil_append, List.cons_append, List.append_nil, Option.map_some, Option.bind_some, List.getElem?_cons_zero, List.getElem?_cons_succ, Bool.false_eq_true, not_true_eq_false, not_false_eq_true, List.contains_cons, List.contains_nil, Nat.reduceBEq, Bool.true_or, Bool.false_or, Bool.or_true, List.set_cons_zero, List.set_cons_succ, List.length_cons, List.length_nil, isLd, Bool.true_and, Bool.false_and, Bool.and_true, Bool.and_false, fa0_0, fa0_1, fi0_0, fi0_1]

end Go.Proofs.Ytmlkgpoakkgjbaa.Gh
