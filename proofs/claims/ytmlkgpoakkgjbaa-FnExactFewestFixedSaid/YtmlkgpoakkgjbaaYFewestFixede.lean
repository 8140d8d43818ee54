/- What the functions that the law FewestFixed reaches return, and the law; it stands under no condition. -/
import Derived.Test.YtmlkgpoakkgjbaaYFewestFixedd
namespace Go.Proofs.Ytmlkgpoakkgjbaa.Gh
open Go Go.RowKit Go.Proofs
set_option linter.unusedVariables false
set_option linter.unusedSimpArgs false
set_option maxHeartbeats 4000000

theorem spec_FewestFixed_ok {G : GH} {N : Gra} {A B : Option Addr} {c d : Nat} {xs : List Int} {own value budget : Int} (h : T3S G A c N.edges) (hf : IntS G B d xs) (hl : N.edges.length < 2 ^ 40) (hl' : xs.length < 2 ^ 40) {K : Value → GH → Prop}
    (hk : LI (fewV N xs own value budget) K G) : GC Try.prog 50 [graV N A c, .slice B xs.length d, .int .i64 own, .int .i64 value, .int .i64 budget] G K := by
  refine GC_drop (c_spec_FewestFixed_i (by simp) ?_)
  unfold graV
  simp (maxSteps := 300000) (disch := omega) only [gs, gs2, gs3, ↓reduceIte, Nat.reduceEqDiff, Nat.mul_one, Nat.add_zero, Nat.zero_add, Nat.zero_mul, Int.toNat_natCast, Int.reduceToNat, Nat.reduceMul, Nat.reduceAdd, decide_true, decide_false, Bool.not_true, Bool.not_false, true_and, and_true, List.map_cons, List.map_nil, List.nil_append, List.cons_append, List.append_nil, Option.map_some, Option.bind_some, List.getElem?_cons_zero, List.getElem?_cons_succ, Bool.false_eq_true, not_true_eq_false, not_false_eq_true, List.contains_cons, List.contains_nil, Nat.reduceBEq, Bool.true_or, Bool.false_or, Bool.or_true, List.set_cons_zero, List.set_cons_succ, List.length_cons, List.length_nil, isLd, Bool.true_and, Bool.false_and, Bool.and_true, Bool.and_false]
  intro b5 hb5
  simp (maxSteps := 300000) (disch := omega) only [gs, gs2, gs3, ↓reduceIte, Nat.reduceEqDiff, Nat.mul_one, Nat.add_zero, Nat.zero_add, Nat.zero_mul, Int.toNat_natCast, Int.reduceToNat, Nat.reduceMul, Nat.reduceAdd, decide_true, decide_false, Bool.not_true, Bool.not_false, true_and, and_true, List.map_cons, List.map_nil, List.nil_append, List.cons_append, List.append_nil, Option.map_some, Option.bind_some, List.getElem?_cons_zero, List.getElem?_cons_succ, Bool.false_eq_true, not_true_eq_false, not_false_eq_true, List.contains_cons, List.contains_nil, Nat.reduceBEq, Bool.true_or, Bool.false_or, Bool.or_true, List.set_cons_zero, List.set_cons_succ, List.length_cons, List.length_nil, isLd, Bool.true_and, Bool.false_and, Bool.and_true, Bool.and_false, gBs]
  have hP := GraP.box hb5 h
  have s1 := Sub.put hb5 ⟨graC N A c, true⟩
  revert hP s1
  generalize put G b5 ⟨graC N A c, true⟩ = G1
  intro hP s1
  refine ⟨by intro v hv; simp at hv, fun b16 hb16 => ?_⟩
  have s2 := Sub.put hb16 ⟨List.flatMap (fun v : Value => v.cells.toList) [], true⟩
  have sG := s1.trans s2
  have hP := hP.sub s2
  revert s2 sG hP
  generalize put G1 b16 ⟨List.flatMap (fun v : Value => v.cells.toList) [], true⟩ = G2
  intro s2 sG hP
  refine spec_l18Ask_ok (fixed := []) hP (hf.sub sG) ⟨Nat.le_refl _, fun i hi => by simp at hi⟩ hl hl' (by simp) ?_
  simp (maxSteps := 300000) (disch := omega) only [gs, gs2, gs3, ↓reduceIte, Nat.reduceEqDiff, Nat.mul_one, Nat.add_zero, Nat.zero_add, Nat.zero_mul, Int.toNat_natCast, Int.reduceToNat, Nat.reduceMul, Nat.reduceAdd, decide_true, decide_false, Bool.not_true, Bool.not_false, true_and, and_true, List.map_cons, List.map_nil, List.nil_append, List.cons_append, List.append_nil, Option.map_some, Option.bind_some, List.getElem?_cons_zero, List.getElem?_cons_succ, Bool.false_eq_true, not_true_eq_false, not_false_eq_true, List.contains_cons, List.contains_nil, Nat.reduceBEq, Bool.true_or, Bool.false_or, Bool.or_true, List.set_cons_zero, List.set_cons_succ, List.length_cons, List.length_nil, isLd, Bool.true_and, Bool.false_and, Bool.and_true, Bool.and_false]
  by_cases g0 : stepC N xs own [] = 0
  rotate_left
  · simp (maxSteps := 300000) (disch := omega) only [gs, gs2, gs3, ↓reduceIte, Nat.reduceEqDiff, Nat.mul_one, Nat.add_zero, Nat.zero_add, Nat.zero_mul, Int.toNat_natCast, Int.reduceToNat, Nat.reduceMul, Nat.reduceAdd, decide_true, decide_false, Bool.not_true, Bool.not_false, true_and, and_true, List.map_cons, List.map_nil, List.nil_append, List.cons_append, List.append_nil, Option.map_some, Option.bind_some, List.getElem?_cons_zero, List.getElem?_cons_succ, Bool.false_eq_true, not_true_eq_false, not_false_eq_true, List.contains_cons, List.contains_nil, Nat.reduceBEq, Bool.true_or, Bool.false_or, Bool.or_true, List.set_cons_zero, List.set_cons_succ, List.length_cons, List.length_nil, isLd, Bool.true_and, Bool.false_and, Bool.and_true, Bool.and_false, eq_false g0]
    exact ⟨G, sG, hk.err (by unfold fewV; rw [if_pos g0])⟩
  simp (maxSteps := 300000) (disch := omega) only [gs, gs2, gs3, ↓reduceIte, Nat.reduceEqDiff, Nat.mul_one, Nat.add_zero, Nat.zero_add, Nat.zero_mul, Int.toNat_natCast, Int.reduceToNat, Nat.reduceMul, Nat.reduceAdd, decide_true, decide_false, Bool.not_true, Bool.not_false, true_and, and_true, List.map_cons, List.map_nil, List.nil_append, List.cons_append, List.append_nil, Option.map_some, Option.bind_some, List.getElem?_cons_zero, List.getElem?_cons_succ, Bool.false_eq_true, not_true_eq_false, not_false_eq_true, List.contains_cons, List.contains_nil, Nat.reduceBEq, Bool.true_or, Bool.false_or, Bool.or_true, List.set_cons_zero, List.set_cons_succ, List.length_cons, List.length_nil, isLd, Bool.true_and, Bool.false_and, Bool.and_true, Bool.and_false, eq_true g0]
  obtain ⟨⟨hn, hx⟩, ho, _⟩ := stepC_zero.1 g0
  have hn1 := hn.1
  have hx1 := hx.1
  refine spec_l00In_ok _ _ _ ?_
  simp (maxSteps := 300000) (disch := omega) only [gs, gs2, gs3, ↓reduceIte, Nat.reduceEqDiff, Nat.mul_one, Nat.add_zero, Nat.zero_add, Nat.zero_mul, Int.toNat_natCast, Int.reduceToNat, Nat.reduceMul, Nat.reduceAdd, decide_true, decide_false, Bool.not_true, Bool.not_false, true_and, and_true, List.map_cons, List.map_nil, List.nil_append, List.cons_append, List.append_nil, Option.map_some, Option.bind_some, List.getElem?_cons_zero, List.getElem?_cons_succ, Bool.false_eq_true, not_true_eq_false, not_false_eq_true, List.contains_cons, List.contains_nil, Nat.reduceBEq, Bool.true_or, Bool.false_or, Bool.or_true, List.set_cons_zero, List.set_cons_succ, List.length_cons, List.length_nil, isLd, Bool.true_and, Bool.false_and, Bool.and_true, Bool.and_false]
  by_cases g1 : -1000000 ≤ value ∧ value ≤ 1000000
  rotate_left
  · rw [decide_eq_false g1]
    simp (maxSteps := 300000) (disch := omega) only [gs, gs2, gs3, ↓reduceIte, Nat.reduceEqDiff, Nat.mul_one, Nat.add_zero, Nat.zero_add, Nat.zero_mul, Int.toNat_natCast, Int.reduceToNat, Nat.reduceMul, Nat.reduceAdd, decide_true, decide_false, Bool.not_true, Bool.not_false, true_and, and_true, List.map_cons, List.map_nil, List.nil_append, List.cons_append, List.append_nil, Option.map_some, Option.bind_some, List.getElem?_cons_zero, List.getElem?_cons_succ, Bool.false_eq_true, not_true_eq_false, not_false_eq_true, List.contains_cons, List.contains_nil, Nat.reduceBEq, Bool.true_or, Bool.false_or, Bool.or_true, List.set_cons_zero, List.set_cons_succ, List.length_cons, List.length_nil, isLd, Bool.true_and, Bool.false_and, Bool.and_true, Bool.and_false, eq_true g0, show ((2 : Int) = 0) = False from eq_false (by decide)]
    exact ⟨G, sG, hk.err (by unfold fewV; rw [if_neg (by simp [g0]), if_pos (fun x => g1 x.1)])⟩
  rw [decide_eq_true g1]
  simp (maxSteps := 300000) (disch := omega) only [gs, gs2, gs3, ↓reduceIte, Nat.reduceEqDiff, Nat.mul_one, Nat.add_zero, Nat.zero_add, Nat.zero_mul, Int.toNat_natCast, Int.reduceToNat, Nat.reduceMul, Nat.reduceAdd, decide_true, decide_false, Bool.not_true, Bool.not_false, true_and, and_true, List.map_cons, List.map_nil, List.nil_append, List.cons_append, List.append_nil, Option.map_some, Option.bind_some, List.getElem?_cons_zero, List.getElem?_cons_succ, Bool.false_eq_true, not_true_eq_false, not_false_eq_true, List.contains_cons, List.contains_nil, Nat.reduceBEq, Bool.true_or, Bool.false_or, Bool.or_true, List.set_cons_zero, List.set_cons_succ, List.length_cons, List.length_nil, isLd, Bool.true_and, Bool.false_and, Bool.and_true, Bool.and_false, eq_true g0]
  refine spec_l00In_ok _ _ _ ?_
  simp (maxSteps := 300000) (disch := omega) only [gs, gs2, gs3, ↓reduceIte, Nat.reduceEqDiff, Nat.mul_one, Nat.add_zero, Nat.zero_add, Nat.zero_mul, Int.toNat_natCast, Int.reduceToNat, Nat.reduceMul, Nat.reduceAdd, decide_true, decide_false, Bool.not_true, Bool.not_false, true_and, and_true, List.map_cons, List.map_nil, List.nil_append, List.cons_append, List.append_nil, Option.map_some, Option.bind_some, List.getElem?_cons_zero, List.getElem?_cons_succ, Bool.false_eq_true, not_true_eq_false, not_false_eq_true, List.contains_cons, List.contains_nil, Nat.reduceBEq, Bool.true_or, Bool.false_or, Bool.or_true, List.set_cons_zero, List.set_cons_succ, List.length_cons, List.length_nil, isLd, Bool.true_and, Bool.false_and, Bool.and_true, Bool.and_false]
  by_cases g2 : 1 ≤ budget ∧ budget ≤ 20000
  rotate_left
  · rw [decide_eq_false g2]
    simp (maxSteps := 300000) (disch := omega) only [gs, gs2, gs3, ↓reduceIte, Nat.reduceEqDiff, Nat.mul_one, Nat.add_zero, Nat.zero_add, Nat.zero_mul, Int.toNat_natCast, Int.reduceToNat, Nat.reduceMul, Nat.reduceAdd, decide_true, decide_false, Bool.not_true, Bool.not_false, true_and, and_true, List.map_cons, List.map_nil, List.nil_append, List.cons_append, List.append_nil, Option.map_some, Option.bind_some, List.getElem?_cons_zero, List.getElem?_cons_succ, Bool.false_eq_true, not_true_eq_false, not_false_eq_true, List.contains_cons, List.contains_nil, Nat.reduceBEq, Bool.true_or, Bool.false_or, Bool.or_true, List.set_cons_zero, List.set_cons_succ, List.length_cons, List.length_nil, isLd, Bool.true_and, Bool.false_and, Bool.and_true, Bool.and_false, eq_true g0, show ((2 : Int) = 0) = False from eq_false (by decide)]
    exact ⟨G, sG, hk.err (by unfold fewV; rw [if_neg (by simp [g0]), if_pos (fun x => g2 x.2)])⟩
  rw [decide_eq_true g2]
  simp (maxSteps := 300000) (disch := omega) only [gs, gs2, gs3, ↓reduceIte, Nat.reduceEqDiff, Nat.mul_one, Nat.add_zero, Nat.zero_add, Nat.zero_mul, Int.toNat_natCast, Int.reduceToNat, Nat.reduceMul, Nat.reduceAdd, decide_true, decide_false, Bool.not_true, Bool.not_false, true_and, and_true, List.map_cons, List.map_nil, List.nil_append, List.cons_append, List.append_nil, Option.map_some, Option.bind_some, List.getElem?_cons_zero, List.getElem?_cons_succ, Bool.false_eq_true, not_true_eq_false, not_false_eq_true, List.contains_cons, List.contains_nil, Nat.reduceBEq, Bool.true_or, Bool.false_or, Bool.or_true, List.set_cons_zero, List.set_cons_succ, List.length_cons, List.length_nil, isLd, Bool.true_and, Bool.false_and, Bool.and_true, Bool.and_false, eq_true g0]
  have hV : fewV N xs own value budget = match seek (leadB N own value xs) budget.toNat (allFrom N.n.toNat 0) 0 with
    | (some s, _, _) => (s, 0)
    | _ => ([], 5) := by unfold fewV; rw [if_neg (by simp [g0]), if_neg (fun x => x ⟨g1, g2⟩)]; rfl
  have hfail : ∀ k, seek (leadB N own value xs) budget.toNat (allFrom N.n.toNat 0) 0 = (none, k, false) → False := fun k => few_done hn hx
  obtain ⟨bd, rfl⟩ : ∃ bd : Nat, budget = bd := ⟨budget.toNat, by omega⟩
  rw [Int.toNat_natCast] at hV hfail
  simp (maxSteps := 300000) (disch := omega) only [gs, gs2, gs3, ↓reduceIte, Nat.reduceEqDiff, Nat.mul_one, Nat.add_zero, Nat.zero_add, Nat.zero_mul, Int.toNat_natCast, Int.reduceToNat, Nat.reduceMul, Nat.reduceAdd, decide_true, decide_false, Bool.not_true, Bool.not_false, true_and, and_true, List.map_cons, List.map_nil, List.nil_append, List.cons_append, List.append_nil, Option.map_some, Option.bind_some, List.getElem?_cons_zero, List.getElem?_cons_succ, Bool.false_eq_true, not_true_eq_false, not_false_eq_true, List.contains_cons, List.contains_nil, Nat.reduceBEq, Bool.true_or, Bool.false_or, Bool.or_true, List.set_cons_zero, List.set_cons_succ, List.length_cons, List.length_nil, isLd, Bool.true_and, Bool.false_and, Bool.and_true, Bool.and_false, show bldV [.pointer none, .slice none 0 0, .int .i64 0, .int .i64 0, .int .i64 0, .slice none 0 0, .int .i64 0, .int .i64 0, .bool false] [(0, 1, .pointer (some ⟨b5, 0, none⟩)), (1, 1, .slice B xs.length d), (2, 1, .int .i64 own), (3, 1, .int .i64 value), (7, 1, .int .i64 (bd : Int))] = some (ssC (some ⟨b5, 0, none⟩) B xs.length d own value 0 none 0 0 0 bd false) from rfl]
  intro b13 hb13
  simp (maxSteps := 300000) (disch := omega) only [gs, gs2, gs3, ↓reduceIte, Nat.reduceEqDiff, Nat.mul_one, Nat.add_zero, Nat.zero_add, Nat.zero_mul, Int.toNat_natCast, Int.reduceToNat, Nat.reduceMul, Nat.reduceAdd, decide_true, decide_false, Bool.not_true, Bool.not_false, true_and, and_true, List.map_cons, List.map_nil, List.nil_append, List.cons_append, List.append_nil, Option.map_some, Option.bind_some, List.getElem?_cons_zero, List.getElem?_cons_succ, Bool.false_eq_true, not_true_eq_false, not_false_eq_true, List.contains_cons, List.contains_nil, Nat.reduceBEq, Bool.true_or, Bool.false_or, Bool.or_true, List.set_cons_zero, List.set_cons_succ, List.length_cons, List.length_nil, isLd, Bool.true_and, Bool.false_and, Bool.and_true, Bool.and_false]
  have hS : SS G2 (put G2 b13 ⟨ssC (some ⟨b5, 0, none⟩) B xs.length d own value 0 none 0 0 0 bd false, true⟩) b13 (some ⟨b5, 0, none⟩) B xs.length d own value 0 bd none 0 [] 0 false :=
    ⟨Sub.put hb13 _, hb13, put_same _ _ _, Own.nil _ _, Off.nil _, fun a ha => by cases ha⟩
  refine hS.st (m' := 0) (k' := 0) (full' := false) (by omega) rfl rfl fun G3 hS => ?_
  simp (maxSteps := 300000) (disch := omega) only [gs, gs2, gs3, ↓reduceIte, Nat.reduceEqDiff, Nat.mul_one, Nat.add_zero, Nat.zero_add, Nat.zero_mul, Int.toNat_natCast, Int.reduceToNat, Nat.reduceMul, Nat.reduceAdd, decide_true, decide_false, Bool.not_true, Bool.not_false, true_and, and_true, List.map_cons, List.map_nil, List.nil_append, List.cons_append, List.append_nil, Option.map_some, Option.bind_some, List.getElem?_cons_zero, List.getElem?_cons_succ, Bool.false_eq_true, not_true_eq_false, not_false_eq_true, List.contains_cons, List.contains_nil, Nat.reduceBEq, Bool.true_or, Bool.false_or, Bool.or_true, List.set_cons_zero, List.set_cons_succ, List.length_cons, List.length_nil, isLd, Bool.true_and, Bool.false_and, Bool.and_true, Bool.and_false]
  refine gLoop_intro (fun m T G' => ∃ (k kk : Nat) (A' : Option Addr) (c' : Nat), T 5 = .pointer (some ⟨b5, 0, none⟩) ∧ T 13 = .pointer (some ⟨b13, 0, none⟩) ∧ m + k = N.n.toNat + 1 ∧ k ≤ N.n.toNat + 1 ∧ kk ≤ bd ∧ SS G2 G' b13 (some ⟨b5, 0, none⟩) B xs.length d own value k bd A' c' [] kk false ∧
      seek (leadB N own value xs) bd (allFrom N.n.toNat 0) 0 = seek (leadB N own value xs) bd (allFrom N.n.toNat k) kk)
    (N.n.toNat + 1) ⟨0, 0, none, 0, by simp (maxSteps := 300000) (disch := omega) only [gs, gs2, gs3, ↓reduceIte, Nat.reduceEqDiff, Nat.mul_one, Nat.add_zero, Nat.zero_add, Nat.zero_mul, Int.toNat_natCast, Int.reduceToNat, Nat.reduceMul, Nat.reduceAdd, decide_true, decide_false, Bool.not_true, Bool.not_false, true_and, and_true, List.map_cons, List.map_nil, List.nil_append, List.cons_append, List.append_nil, Option.map_some, Option.bind_some, List.getElem?_cons_zero, List.getElem?_cons_succ, Bool.false_eq_true, not_true_eq_false, not_false_eq_true, List.contains_cons, List.contains_nil, Nat.reduceBEq, Bool.true_or, Bool.false_or, Bool.or_true, List.set_cons_zero, List.set_cons_succ, List.length_cons, List.length_nil, isLd, Bool.true_and, Bool.false_and, Bool.and_true, Bool.and_false], by simp (maxSteps := 300000) (disch := omega) only [gs, gs2, gs3, ↓reduceIte, Nat.reduceEqDiff, Nat.mul_one, Nat.add_zero, Nat.zero_add, Nat.zero_mul, Int.toNat_natCast, Int.reduceToNat, Nat.reduceMul, Nat.reduceAdd, decide_true, decide_false, Bool.not_true, Bool.not_false, true_and, and_true, List.map_cons, List.map_nil, List.nil_append, List.cons_append, List.append_nil, Option.map_some, Option.bind_some, List.getElem?_cons_zero, List.getElem?_cons_succ, Bool.false_eq_true, not_true_eq_false, not_false_eq_true, List.contains_cons, List.contains_nil, Nat.reduceBEq, Bool.true_or, Bool.false_or, Bool.or_true, List.set_cons_zero, List.set_cons_succ, List.length_cons, List.length_nil, isLd, Bool.true_and, Bool.false_and, Bool.and_true, Bool.and_false], by omega, by omega, by omega, hS, rfl⟩ ?_
  clear hS
  rintro m T G' ⟨k, kk, A', c', e5, e13, hm, hkm, hkk, h', hsc⟩
  have r4 := h'.r4
  have f0 := rd_sub h'.sub hP.f0
  simp (maxSteps := 300000) (disch := omega) only [gs, gs2, gs3, ↓reduceIte, Nat.reduceEqDiff, Nat.mul_one, Nat.add_zero, Nat.zero_add, Nat.zero_mul, Int.toNat_natCast, Int.reduceToNat, Nat.reduceMul, Nat.reduceAdd, decide_true, decide_false, Bool.not_true, Bool.not_false, true_and, and_true, List.map_cons, List.map_nil, List.nil_append, List.cons_append, List.append_nil, Option.map_some, Option.bind_some, List.getElem?_cons_zero, List.getElem?_cons_succ, Bool.false_eq_true, not_true_eq_false, not_false_eq_true, List.contains_cons, List.contains_nil, Nat.reduceBEq, Bool.true_or, Bool.false_or, Bool.or_true, List.set_cons_zero, List.set_cons_succ, List.length_cons, List.length_nil, isLd, Bool.true_and, Bool.false_and, Bool.and_true, Bool.and_false, e5, e13, r4, f0]
  by_cases hlt : (k : Int) ≤ N.n
  rotate_left
  · simp (maxSteps := 300000) (disch := omega) only [gs, gs2, gs3, ↓reduceIte, Nat.reduceEqDiff, Nat.mul_one, Nat.add_zero, Nat.zero_add, Nat.zero_mul, Int.toNat_natCast, Int.reduceToNat, Nat.reduceMul, Nat.reduceAdd, decide_true, decide_false, Bool.not_true, Bool.not_false, true_and, and_true, List.map_cons, List.map_nil, List.nil_append, List.cons_append, List.append_nil, Option.map_some, Option.bind_some, List.getElem?_cons_zero, List.getElem?_cons_succ, Bool.false_eq_true, not_true_eq_false, not_false_eq_true, List.contains_cons, List.contains_nil, Nat.reduceBEq, Bool.true_or, Bool.false_or, Bool.or_true, List.set_cons_zero, List.set_cons_succ, List.length_cons, List.length_nil, isLd, Bool.true_and, Bool.false_and, Bool.and_true, Bool.and_false, e5, e13, r4, f0, hlt]
    exfalso
    rw [allFrom_end (n := N.n.toNat) (m := k) (by omega)] at hsc
    exact hfail _ hsc
  simp (maxSteps := 300000) (disch := omega) only [gs, gs2, gs3, ↓reduceIte, Nat.reduceEqDiff, Nat.mul_one, Nat.add_zero, Nat.zero_add, Nat.zero_mul, Int.toNat_natCast, Int.reduceToNat, Nat.reduceMul, Nat.reduceAdd, decide_true, decide_false, Bool.not_true, Bool.not_false, true_and, and_true, List.map_cons, List.map_nil, List.nil_append, List.cons_append, List.append_nil, Option.map_some, Option.bind_some, List.getElem?_cons_zero, List.getElem?_cons_succ, Bool.false_eq_true, not_true_eq_false, not_false_eq_true, List.contains_cons, List.contains_nil, Nat.reduceBEq, Bool.true_or, Bool.false_or, Bool.or_true, List.set_cons_zero, List.set_cons_succ, List.length_cons, List.length_nil, isLd, Bool.true_and, Bool.false_and, Bool.and_true, Bool.and_false, e5, e13, r4, f0, hlt]
  rw [allFrom_step (n := N.n.toNat) (m := k) (by omega)] at hsc
  refine spec_run_ok (N := N) hP (hf.sub sG) hn hx ho g1 (by omega) (by omega) k (lo := 0) h' (by simp) (by omega) hkk (fun x hx' => by simp at hx') ?_
  rw [map_nil_pre]
  refine ⟨fun s k2 f2 hR G4 A4 c4 h4 => ?_, fun k2 f2 hR G4 A4 c4 h4 => ?_⟩
  · have r5 := h4.r5
    simp (maxSteps := 300000) (disch := omega) only [gs, gs2, gs3, ↓reduceIte, Nat.reduceEqDiff, Nat.mul_one, Nat.add_zero, Nat.zero_add, Nat.zero_mul, Int.toNat_natCast, Int.reduceToNat, Nat.reduceMul, Nat.reduceAdd, decide_true, decide_false, Bool.not_true, Bool.not_false, true_and, and_true, List.map_cons, List.map_nil, List.nil_append, List.cons_append, List.append_nil, Option.map_some, Option.bind_some, List.getElem?_cons_zero, List.getElem?_cons_succ, Bool.false_eq_true, not_true_eq_false, not_false_eq_true, List.contains_cons, List.contains_nil, Nat.reduceBEq, Bool.true_or, Bool.false_or, Bool.or_true, List.set_cons_zero, List.set_cons_succ, List.length_cons, List.length_nil, isLd, Bool.true_and, Bool.false_and, Bool.and_true, Bool.and_false, e5, e13, r5]
    rw [seek_stop (.inl (by simp)) hR] at hsc
    have hsl : s.length ≤ 12 := by
      have := chs_len _ _ _ _ (seek_found hR).1; omega
    refine spec_l00Own_ok h4.own.ints (by omega) fun G5 A5 c5 hN => ?_
    simp (maxSteps := 300000) (disch := omega) only [gs, gs2, gs3, ↓reduceIte, Nat.reduceEqDiff, Nat.mul_one, Nat.add_zero, Nat.zero_add, Nat.zero_mul, Int.toNat_natCast, Int.reduceToNat, Nat.reduceMul, Nat.reduceAdd, decide_true, decide_false, Bool.not_true, Bool.not_false, true_and, and_true, List.map_cons, List.map_nil, List.nil_append, List.cons_append, List.append_nil, Option.map_some, Option.bind_some, List.getElem?_cons_zero, List.getElem?_cons_succ, Bool.false_eq_true, not_true_eq_false, not_false_eq_true, List.contains_cons, List.contains_nil, Nat.reduceBEq, Bool.true_or, Bool.false_or, Bool.or_true, List.set_cons_zero, List.set_cons_succ, List.length_cons, List.length_nil, isLd, Bool.true_and, Bool.false_and, Bool.and_true, Bool.and_false, e5, e13]
    rw [hV, hsc] at hk
    obtain ⟨G6, s6, hN6⟩ := hN.low (sG.trans h4.sub)
    exact ⟨G6, s6, hk _ _ _ hN6⟩
  · have r8 := h4.r8
    have r4 := h4.r4
    have hk2 : k2 ≤ bd := by have := seek_le (leadB N own value xs) bd (chs N.n.toNat k 0) kk hkk; rw [hR] at this; exact this
    cases f2 with
    | true =>
      simp (maxSteps := 300000) (disch := omega) only [gs, gs2, gs3, ↓reduceIte, Nat.reduceEqDiff, Nat.mul_one, Nat.add_zero, Nat.zero_add, Nat.zero_mul, Int.toNat_natCast, Int.reduceToNat, Nat.reduceMul, Nat.reduceAdd, decide_true, decide_false, Bool.not_true, Bool.not_false, true_and, and_true, List.map_cons, List.map_nil, List.nil_append, List.cons_append, List.append_nil, Option.map_some, Option.bind_some, List.getElem?_cons_zero, List.getElem?_cons_succ, Bool.false_eq_true, not_true_eq_false, not_false_eq_true, List.contains_cons, List.contains_nil, Nat.reduceBEq, Bool.true_or, Bool.false_or, Bool.or_true, List.set_cons_zero, List.set_cons_succ, List.length_cons, List.length_nil, isLd, Bool.true_and, Bool.false_and, Bool.and_true, Bool.and_false, e5, e13, r8]
      rw [seek_stop (.inr rfl) hR] at hsc
      exact ⟨G, sG.trans h4.sub, hk.err (by rw [hV, hsc])⟩
    | false =>
      simp (maxSteps := 300000) (disch := omega) only [gs, gs2, gs3, ↓reduceIte, Nat.reduceEqDiff, Nat.mul_one, Nat.add_zero, Nat.zero_add, Nat.zero_mul, Int.toNat_natCast, Int.reduceToNat, Nat.reduceMul, Nat.reduceAdd, decide_true, decide_false, Bool.not_true, Bool.not_false, true_and, and_true, List.map_cons, List.map_nil, List.nil_append, List.cons_append, List.append_nil, Option.map_some, Option.bind_some, List.getElem?_cons_zero, List.getElem?_cons_succ, Bool.false_eq_true, not_true_eq_false, not_false_eq_true, List.contains_cons, List.contains_nil, Nat.reduceBEq, Bool.true_or, Bool.false_or, Bool.or_true, List.set_cons_zero, List.set_cons_succ, List.length_cons, List.length_nil, isLd, Bool.true_and, Bool.false_and, Bool.and_true, Bool.and_false, e5, e13, r8, r4]
      refine h4.st (m' := k + 1) (k' := k2) (full' := false) (by omega) rfl rfl fun G5 h5 => ?_
      simp (maxSteps := 300000) (disch := omega) only [gs, gs2, gs3, ↓reduceIte, Nat.reduceEqDiff, Nat.mul_one, Nat.add_zero, Nat.zero_add, Nat.zero_mul, Int.toNat_natCast, Int.reduceToNat, Nat.reduceMul, Nat.reduceAdd, decide_true, decide_false, Bool.not_true, Bool.not_false, true_and, and_true, List.map_cons, List.map_nil, List.nil_append, List.cons_append, List.append_nil, Option.map_some, Option.bind_some, List.getElem?_cons_zero, List.getElem?_cons_succ, Bool.false_eq_true, not_true_eq_false, not_false_eq_true, List.contains_cons, List.contains_nil, Nat.reduceBEq, Bool.true_or, Bool.false_or, Bool.or_true, List.set_cons_zero, List.set_cons_succ, List.length_cons, List.length_nil, isLd, Bool.true_and, Bool.false_and, Bool.and_true, Bool.and_false, e5, e13]
      exact ⟨m - 1, by omega, G5, Sub.refl _, k + 1, k2, A4, c4, by omega, by omega, hk2, h5, by rw [hsc]; exact seek_none hR⟩
theorem law_FewestFixed {G : GH} {v0 : Value} {v1 : Value} {v2 : Value} {v3 : Value} {v4 : Value} {x0 : Gra} {x1 : List Int} {x2 : Int} {x3 : Int} {x4 : Int} (h0 : GraphV G v0 x0) (h1 : IntsV G v1 x1) (h2 : IntV G v2 x2) (h3 : IntV G v3 x3) (h4 : IntV G v4 x4) : GC Try.prog 11 [v0, v1, v2, v3, v4] G fun v _ => v = .bool true := by
  obtain ⟨A0, c0, rfl, h0, e0, l0, rn0⟩ := h0
  obtain ⟨A1, c1, rfl, h1, e1, l1⟩ := h1
  obtain ⟨rfl, e2⟩ := h2
  obtain ⟨rfl, e3⟩ := h3
  obtain ⟨rfl, e4⟩ := h4
  refine c_laws_FnExactFewestFixed_i (by simp) ?_
  unfold graV graC
  simp (maxSteps := 300000) (disch := omega) only [gs, gs2, gs3, ↓reduceIte, Nat.reduceEqDiff, Nat.mul_one, Nat.add_zero, Nat.zero_add, Nat.zero_mul, Int.toNat_natCast, Int.reduceToNat, Nat.reduceMul, Nat.reduceAdd, decide_true, decide_false, Bool.not_true, Bool.not_false, true_and, and_true, List.map_cons, List.map_nil, List.nil_append, List.cons_append, List.append_nil, Option.map_some, Option.bind_some, List.getElem?_cons_zero, List.getElem?_cons_succ, Bool.false_eq_true, not_true_eq_false, not_false_eq_true, List.contains_cons, List.contains_nil, Nat.reduceBEq, Bool.true_or, Bool.false_or, Bool.or_true, List.set_cons_zero, List.set_cons_succ, List.length_cons, List.length_nil, isLd, Bool.true_and, Bool.false_and, Bool.and_true, Bool.and_false]
  have s_b := Sub.refl G
  intro p0 hp0
  generalize hG1 : put G p0 ⟨[.int .i64 x0.n, .slice A0 x0.edges.length c0], true⟩ = G1
  have t1 : Sub G G1 := hG1 ▸ Sub.put hp0 _
  have h0 := h0.sub t1
  have h1 := h1.sub t1
  have fa0_0 : rd G1 (some ⟨p0, 0, none⟩) = some (.int .i64 x0.n) := by rw [← hG1]; exact rd_box _ _ _ 0 _ rfl
  have fa0_1 : rd G1 (some ⟨p0, 1, none⟩) = some (.slice A0 x0.edges.length c0) := by rw [← hG1]; exact rd_box _ _ _ 1 _ rfl
  have s_b := Sub.refl G1
  have fa0_0c := rd_sub s_b fa0_0
  have fa0_1c := rd_sub s_b fa0_1
  simp (maxSteps := 300000) (disch := omega) only [gs, gs2, gs3, ↓reduceIte, Nat.reduceEqDiff, Nat.mul_one, Nat.add_zero, Nat.zero_add, Nat.zero_mul, Int.toNat_natCast, Int.reduceToNat, Nat.reduceMul, Nat.reduceAdd, decide_true, decide_false, Bool.not_true, Bool.not_false, true_and, and_true, List.map_cons, List.map_nil, List.nil_append, List.cons_append, List.append_nil, Option.map_some, Option.bind_some, List.getElem?_cons_zero, List.getElem?_cons_succ, Bool.false_eq_true, not_true_eq_false, not_false_eq_true, List.contains_cons, List.contains_nil, Nat.reduceBEq, Bool.true_or, Bool.false_or, Bool.or_true, List.set_cons_zero, List.set_cons_succ, List.length_cons, List.length_nil, isLd, Bool.true_and, Bool.false_and, Bool.and_true, Bool.and_false, fa0_0c, fa0_1c]
  by_cases g1 : (1048576 : Int) < x1.length
  · simp (maxSteps := 300000) (disch := omega) only [gs, gs2, gs3, ↓reduceIte, Nat.reduceEqDiff, Nat.mul_one, Nat.add_zero, Nat.zero_add, Nat.zero_mul, Int.toNat_natCast, Int.reduceToNat, Nat.reduceMul, Nat.reduceAdd, decide_true, decide_false, Bool.not_true, Bool.not_false, true_and, and_true, List.map_cons, List.map_nil, List.nil_append, List.cons_append, List.append_nil, Option.map_some, Option.bind_some, List.getElem?_cons_zero, List.getElem?_cons_succ, Bool.false_eq_true, not_true_eq_false, not_false_eq_true, List.contains_cons, List.contains_nil, Nat.reduceBEq, Bool.true_or, Bool.false_or, Bool.or_true, List.set_cons_zero, List.set_cons_succ, List.length_cons, List.length_nil, isLd, Bool.true_and, Bool.false_and, Bool.and_true, Bool.and_false, g1, fa0_0c, fa0_1c]
  simp (maxSteps := 300000) (disch := omega) only [gs, gs2, gs3, ↓reduceIte, Nat.reduceEqDiff, Nat.mul_one, Nat.add_zero, Nat.zero_add, Nat.zero_mul, Int.toNat_natCast, Int.reduceToNat, Nat.reduceMul, Nat.reduceAdd, decide_true, decide_false, Bool.not_true, Bool.not_false, true_and, and_true, List.map_cons, List.map_nil, List.nil_append, List.cons_append, List.append_nil, Option.map_some, Option.bind_some, List.getElem?_cons_zero, List.getElem?_cons_succ, Bool.false_eq_true, not_true_eq_false, not_false_eq_true, List.contains_cons, List.contains_nil, Nat.reduceBEq, Bool.true_or, Bool.false_or, Bool.or_true, List.set_cons_zero, List.set_cons_succ, List.length_cons, List.length_nil, isLd, Bool.true_and, Bool.false_and, Bool.and_true, Bool.and_false, g1, fa0_0c, fa0_1c]
  refine laws_szGraph_ok (N := x0) ⟨by omega, by omega⟩ (by omega) fun q0 q0a q0b q0c => ?_
  simp (maxSteps := 300000) (disch := omega) only [gs, gs2, gs3, ↓reduceIte, Nat.reduceEqDiff, Nat.mul_one, Nat.add_zero, Nat.zero_add, Nat.zero_mul, Int.toNat_natCast, Int.reduceToNat, Nat.reduceMul, Nat.reduceAdd, decide_true, decide_false, Bool.not_true, Bool.not_false, true_and, and_true, List.map_cons, List.map_nil, List.nil_append, List.cons_append, List.append_nil, Option.map_some, Option.bind_some, List.getElem?_cons_zero, List.getElem?_cons_succ, Bool.false_eq_true, not_true_eq_false, not_false_eq_true, List.contains_cons, List.contains_nil, Nat.reduceBEq, Bool.true_or, Bool.false_or, Bool.or_true, List.set_cons_zero, List.set_cons_succ, List.length_cons, List.length_nil, isLd, Bool.true_and, Bool.false_and, Bool.and_true, Bool.and_false, fa0_0c, fa0_1c]
  by_cases g0 : q0 < 0
  · simp (maxSteps := 300000) (disch := omega) only [gs, gs2, gs3, ↓reduceIte, Nat.reduceEqDiff, Nat.mul_one, Nat.add_zero, Nat.zero_add, Nat.zero_mul, Int.toNat_natCast, Int.reduceToNat, Nat.reduceMul, Nat.reduceAdd, decide_true, decide_false, Bool.not_true, Bool.not_false, true_and, and_true, List.map_cons, List.map_nil, List.nil_append, List.cons_append, List.append_nil, Option.map_some, Option.bind_some, List.getElem?_cons_zero, List.getElem?_cons_succ, Bool.false_eq_true, not_true_eq_false, not_false_eq_true, List.contains_cons, List.contains_nil, Nat.reduceBEq, Bool.true_or, Bool.false_or, Bool.or_true, List.set_cons_zero, List.set_cons_succ, List.length_cons, List.length_nil, isLd, Bool.true_and, Bool.false_and, Bool.and_true, Bool.and_false, g0, fa0_0c, fa0_1c]
  simp (maxSteps := 300000) (disch := omega) only [gs, gs2, gs3, ↓reduceIte, Nat.reduceEqDiff, Nat.mul_one, Nat.add_zero, Nat.zero_add, Nat.zero_mul, Int.toNat_natCast, Int.reduceToNat, Nat.reduceMul, Nat.reduceAdd, decide_true, decide_false, Bool.not_true, Bool.not_false, true_and, and_true, List.map_cons, List.map_nil, List.nil_append, List.cons_append, List.append_nil, Option.map_some, Option.bind_some, List.getElem?_cons_zero, List.getElem?_cons_succ, Bool.false_eq_true, not_true_eq_false, not_false_eq_true, List.contains_cons, List.contains_nil, Nat.reduceBEq, Bool.true_or, Bool.false_or, Bool.or_true, List.set_cons_zero, List.set_cons_succ, List.length_cons, List.length_nil, isLd, Bool.true_and, Bool.false_and, Bool.and_true, Bool.and_false, g0, fa0_0c, fa0_1c]
  refine laws_toGraph_new (N := x0) (h0.sub s_b) (by omega) fun As0 G2 n_s0 => ?_
  have o_s0 := n_s0.own
  have t_s0 := n_s0.sub
  have s_b := s_b.trans t_s0
  have fa0_0c := rd_sub s_b fa0_0
  have fa0_1c := rd_sub s_b fa0_1
  have s_s0 := Sub.rest G1 G2
  simp (maxSteps := 300000) (disch := omega) only [gs, gs2, gs3, ↓reduceIte, Nat.reduceEqDiff, Nat.mul_one, Nat.add_zero, Nat.zero_add, Nat.zero_mul, Int.toNat_natCast, Int.reduceToNat, Nat.reduceMul, Nat.reduceAdd, decide_true, decide_false, Bool.not_true, Bool.not_false, true_and, and_true, List.map_cons, List.map_nil, List.nil_append, List.cons_append, List.append_nil, Option.map_some, Option.bind_some, List.getElem?_cons_zero, List.getElem?_cons_succ, Bool.false_eq_true, not_true_eq_false, not_false_eq_true, List.contains_cons, List.contains_nil, Nat.reduceBEq, Bool.true_or, Bool.false_or, Bool.or_true, List.set_cons_zero, List.set_cons_succ, List.length_cons, List.length_nil, isLd, Bool.true_and, Bool.false_and, Bool.and_true, Bool.and_false, fa0_0c, fa0_1c]
  refine laws_toInt64S_new (N := x1) (h1.sub s_b) (by omega) fun As1 G3 n_s1 => ?_
  have o_s1 := n_s1.own
  have t_s1 := n_s1.sub
  have s_b := s_b.trans t_s1
  have s_s0 := s_s0.trans t_s1
  have fa0_0c := rd_sub s_b fa0_0
  have fa0_1c := rd_sub s_b fa0_1
  have s_s1 := Sub.rest G2 G3
  simp (maxSteps := 300000) (disch := omega) only [gs, gs2, gs3, ↓reduceIte, Nat.reduceEqDiff, Nat.mul_one, Nat.add_zero, Nat.zero_add, Nat.zero_mul, Int.toNat_natCast, Int.reduceToNat, Nat.reduceMul, Nat.reduceAdd, decide_true, decide_false, Bool.not_true, Bool.not_false, true_and, and_true, List.map_cons, List.map_nil, List.nil_append, List.cons_append, List.append_nil, Option.map_some, Option.bind_some, List.getElem?_cons_zero, List.getElem?_cons_succ, Bool.false_eq_true, not_true_eq_false, not_false_eq_true, List.contains_cons, List.contains_nil, Nat.reduceBEq, Bool.true_or, Bool.false_or, Bool.or_true, List.set_cons_zero, List.set_cons_succ, List.length_cons, List.length_nil, isLd, Bool.true_and, Bool.false_and, Bool.and_true, Bool.and_false, fa0_0c, fa0_1c]
  have hlen : (fewV x0 x1 x2 x3 x4).1.length ≤ 2 ^ 20 := few_len
  refine spec_FewestFixed_ok (o_s0.sub s_s0).t3 (o_s1.sub s_s1).ints (by omega) (by omega) fun G4 Aw cw n_w => ?_
  have o_w := n_w.own
  have f_b_w : Off G1 Aw := n_w.off.mono s_b
  have t_w := n_w.sub
  have s_b := s_b.trans t_w
  have fa0_0c := rd_sub s_b fa0_0
  have fa0_1c := rd_sub s_b fa0_1
  have s_w : Sub (rest G3 G4) G4 := Sub.rest _ _
  simp (maxSteps := 300000) (disch := omega) only [gs, gs2, gs3, ↓reduceIte, Nat.reduceEqDiff, Nat.mul_one, Nat.add_zero, Nat.zero_add, Nat.zero_mul, Int.toNat_natCast, Int.reduceToNat, Nat.reduceMul, Nat.reduceAdd, decide_true, decide_false, Bool.not_true, Bool.not_false, true_and, and_true, List.map_cons, List.map_nil, List.nil_append, List.cons_append, List.append_nil, Option.map_some, Option.bind_some, List.getElem?_cons_zero, List.getElem?_cons_succ, Bool.false_eq_true, not_true_eq_false, not_false_eq_true, List.contains_cons, List.contains_nil, Nat.reduceBEq, Bool.true_or, Bool.false_or, Bool.or_true, List.set_cons_zero, List.set_cons_succ, List.length_cons, List.length_nil, isLd, Bool.true_and, Bool.false_and, Bool.and_true, Bool.and_false, fa0_0c, fa0_1c]
  refine laws_toGraph_new (N := x0) (h0.sub s_b) (by omega) fun Ai0 G5 n_i0 => ?_
  have o_i0 := n_i0.own
  have f_b_i0 : Off G1 Ai0 := n_i0.off.mono s_b
  have f_w_i0 : Off (rest G3 G4) Ai0 := n_i0.off.mono s_w
  have f_i0_w : Off (rest G4 G5) Aw := Off.rest (own_ne (o_w.sub s_w))
  have t_i0 := n_i0.sub
  have s_b := s_b.trans t_i0
  have s_w := s_w.trans t_i0
  have fa0_0c := rd_sub s_b fa0_0
  have fa0_1c := rd_sub s_b fa0_1
  have s_i0 : Sub (rest G4 G5) G5 := Sub.rest _ _
  simp (maxSteps := 300000) (disch := omega) only [gs, gs2, gs3, ↓reduceIte, Nat.reduceEqDiff, Nat.mul_one, Nat.add_zero, Nat.zero_add, Nat.zero_mul, Int.toNat_natCast, Int.reduceToNat, Nat.reduceMul, Nat.reduceAdd, decide_true, decide_false, Bool.not_true, Bool.not_false, true_and, and_true, List.map_cons, List.map_nil, List.nil_append, List.cons_append, List.append_nil, Option.map_some, Option.bind_some, List.getElem?_cons_zero, List.getElem?_cons_succ, Bool.false_eq_true, not_true_eq_false, not_false_eq_true, List.contains_cons, List.contains_nil, Nat.reduceBEq, Bool.true_or, Bool.false_or, Bool.or_true, List.set_cons_zero, List.set_cons_succ, List.length_cons, List.length_nil, isLd, Bool.true_and, Bool.false_and, Bool.and_true, Bool.and_false, fa0_0c, fa0_1c]
  intro p5 hp5
  simp (maxSteps := 300000) (disch := omega) only [gs, gs2, gs3, ↓reduceIte, Nat.reduceEqDiff, Nat.mul_one, Nat.add_zero, Nat.zero_add, Nat.zero_mul, Int.toNat_natCast, Int.reduceToNat, Nat.reduceMul, Nat.reduceAdd, decide_true, decide_false, Bool.not_true, Bool.not_false, true_and, and_true, List.map_cons, List.map_nil, List.nil_append, List.cons_append, List.append_nil, Option.map_some, Option.bind_some, List.getElem?_cons_zero, List.getElem?_cons_succ, Bool.false_eq_true, not_true_eq_false, not_false_eq_true, List.contains_cons, List.contains_nil, Nat.reduceBEq, Bool.true_or, Bool.false_or, Bool.or_true, List.set_cons_zero, List.set_cons_succ, List.length_cons, List.length_nil, isLd, Bool.true_and, Bool.false_and, Bool.and_true, Bool.and_false, fa0_0c, fa0_1c]
  refine st_fresh (vs := [.int .i64 x0.n, .slice Ai0 x0.edges.length x0.edges.length]) rfl rfl rfl (by intro v hv; simp only [List.mem_cons, List.not_mem_nil, or_false] at hv; rcases hv with rfl | rfl <;> rfl) ?_
  have b_x0 := box_rest (cs := [.int .i64 x0.n, .slice Ai0 x0.edges.length x0.edges.length]) hp5
  have f_x0_w : Off (rest G5 (put G5 p5 ⟨[.int .i64 x0.n, .slice Ai0 x0.edges.length x0.edges.length], true⟩)) Aw := Off.rest (own_ne (o_w.sub s_w))
  have f_x0_i0 : Off (rest G5 (put G5 p5 ⟨[.int .i64 x0.n, .slice Ai0 x0.edges.length x0.edges.length], true⟩)) Ai0 := Off.rest (own_ne (o_i0.sub s_i0))
  have t_x0 := Sub.put hp5 ⟨[.int .i64 x0.n, .slice Ai0 x0.edges.length x0.edges.length], true⟩
  have s_x0 : Sub (rest G5 (put G5 p5 ⟨[.int .i64 x0.n, .slice Ai0 x0.edges.length x0.edges.length], true⟩)) _ := Sub.rest _ (put G5 p5 ⟨[.int .i64 x0.n, .slice Ai0 x0.edges.length x0.edges.length], true⟩)
  have fi0_0 := b_x0 0 _ rfl
  have fi0_1 := b_x0 1 _ rfl
  revert b_x0 f_x0_w f_x0_i0 t_x0 s_x0 fi0_0 fi0_1
  generalize rest G5 (put G5 p5 ⟨[.int .i64 x0.n, .slice Ai0 x0.edges.length x0.edges.length], true⟩) = Hx0
  generalize put G5 p5 ⟨[.int .i64 x0.n, .slice Ai0 x0.edges.length x0.edges.length], true⟩ = G6
  intro b_x0 f_x0_w f_x0_i0 t_x0 s_x0 fi0_0 fi0_1
  have s_b := s_b.trans t_x0
  have s_w := s_w.trans t_x0
  have s_i0 := s_i0.trans t_x0
  have fa0_0c := rd_sub s_b fa0_0
  have fa0_1c := rd_sub s_b fa0_1
  have fi0_0c := rd_sub s_x0 fi0_0
  have fi0_1c := rd_sub s_x0 fi0_1
  simp (maxSteps := 300000) (disch := omega) only [gs, gs2, gs3, ↓reduceIte, Nat.reduceEqDiff, Nat.mul_one, Nat.add_zero, Nat.zero_add, Nat.zero_mul, Int.toNat_natCast, Int.reduceToNat, Nat.reduceMul, Nat.reduceAdd, decide_true, decide_false, Bool.not_true, Bool.not_false, true_and, and_true, List.map_cons, List.map_nil, List.nil_append, List.cons_append, List.append_nil, Option.map_some, Option.bind_some, List.getElem?_cons_zero, List.getElem?_cons_succ, Bool.false_eq_true, not_true_eq_false, not_false_eq_true, List.contains_cons, List.contains_nil, Nat.reduceBEq, Bool.true_or, Bool.false_or, Bool.or_true, List.set_cons_zero, List.set_cons_succ, List.length_cons, List.length_nil, isLd, Bool.true_and, Bool.false_and, Bool.and_true, Bool.and_false, fa0_0c, fa0_1c, fi0_0c, fi0_1c]
  refine laws_toInt64S_new (N := x1) (h1.sub s_b) (by omega) fun Ai1 G7 n_i1 => ?_
  have o_i1 := n_i1.own
  have f_b_i1 : Off G1 Ai1 := n_i1.off.mono s_b
  have f_w_i1 : Off (rest G3 G4) Ai1 := n_i1.off.mono s_w
  have f_i0_i1 : Off (rest G4 G5) Ai1 := n_i1.off.mono s_i0
  have f_x0_i1 : Off Hx0 Ai1 := n_i1.off.mono s_x0
  have f_i1_w : Off (rest G6 G7) Aw := Off.rest (own_ne (o_w.sub s_w))
  have f_i1_i0 : Off (rest G6 G7) Ai0 := Off.rest (own_ne (o_i0.sub s_i0))
  have t_i1 := n_i1.sub
  have s_b := s_b.trans t_i1
  have s_w := s_w.trans t_i1
  have s_i0 := s_i0.trans t_i1
  have s_x0 := s_x0.trans t_i1
  have fa0_0c := rd_sub s_b fa0_0
  have fa0_1c := rd_sub s_b fa0_1
  have fi0_0c := rd_sub s_x0 fi0_0
  have fi0_1c := rd_sub s_x0 fi0_1
  have s_i1 : Sub (rest G6 G7) G7 := Sub.rest _ _
  simp (maxSteps := 300000) (disch := omega) only [gs, gs2, gs3, ↓reduceIte, Nat.reduceEqDiff, Nat.mul_one, Nat.add_zero, Nat.zero_add, Nat.zero_mul, Int.toNat_natCast, Int.reduceToNat, Nat.reduceMul, Nat.reduceAdd, decide_true, decide_false, Bool.not_true, Bool.not_false, true_and, and_true, List.map_cons, List.map_nil, List.nil_append, List.cons_append, List.append_nil, Option.map_some, Option.bind_some, List.getElem?_cons_zero, List.getElem?_cons_succ, Bool.false_eq_true, not_true_eq_false, not_false_eq_true, List.contains_cons, List.contains_nil, Nat.reduceBEq, Bool.true_or, Bool.false_or, Bool.or_true, List.set_cons_zero, List.set_cons_succ, List.length_cons, List.length_nil, isLd, Bool.true_and, Bool.false_and, Bool.and_true, Bool.and_false, fa0_0c, fa0_1c, fi0_0c, fi0_1c]
  refine impl_FewestFixed_ok (o_i0.sub s_i0).t3 (o_i1.sub s_i1).ints (by omega) (by omega) fun G8 Ag cg n_g => ?_
  have o_g := n_g.own
  have f_b_g : Off G1 Ag := n_g.off.mono s_b
  have f_w_g : Off (rest G3 G4) Ag := n_g.off.mono s_w
  have f_i0_g : Off (rest G4 G5) Ag := n_g.off.mono s_i0
  have f_x0_g : Off Hx0 Ag := n_g.off.mono s_x0
  have f_i1_g : Off (rest G6 G7) Ag := n_g.off.mono s_i1
  have f_g_w : Off (rest G7 G8) Aw := Off.rest (own_ne (o_w.sub s_w))
  have f_g_i0 : Off (rest G7 G8) Ai0 := Off.rest (own_ne (o_i0.sub s_i0))
  have f_g_i1 : Off (rest G7 G8) Ai1 := Off.rest (own_ne (o_i1.sub s_i1))
  have t_g := n_g.sub
  have s_b := s_b.trans t_g
  have s_w := s_w.trans t_g
  have s_i0 := s_i0.trans t_g
  have s_x0 := s_x0.trans t_g
  have s_i1 := s_i1.trans t_g
  have fa0_0c := rd_sub s_b fa0_0
  have fa0_1c := rd_sub s_b fa0_1
  have fi0_0c := rd_sub s_x0 fi0_0
  have fi0_1c := rd_sub s_x0 fi0_1
  have s_g : Sub (rest G7 G8) G8 := Sub.rest _ _
  simp (maxSteps := 300000) (disch := omega) only [gs, gs2, gs3, ↓reduceIte, Nat.reduceEqDiff, Nat.mul_one, Nat.add_zero, Nat.zero_add, Nat.zero_mul, Int.toNat_natCast, Int.reduceToNat, Nat.reduceMul, Nat.reduceAdd, decide_true, decide_false, Bool.not_true, Bool.not_false, true_and, and_true, List.map_cons, List.map_nil, List.nil_append, List.cons_append, List.append_nil, Option.map_some, Option.bind_some, List.getElem?_cons_zero, List.getElem?_cons_succ, Bool.false_eq_true, not_true_eq_false, not_false_eq_true, List.contains_cons, List.contains_nil, Nat.reduceBEq, Bool.true_or, Bool.false_or, Bool.or_true, List.set_cons_zero, List.set_cons_succ, List.length_cons, List.length_nil, isLd, Bool.true_and, Bool.false_and, Bool.and_true, Bool.and_false, fa0_0c, fa0_1c, fi0_0c, fi0_1c]
  refine laws_eqInt64S_ok (o_g.sub s_g).ints (o_w.sub s_w).ints (by omega) ?_
  simp (maxSteps := 300000) (disch := omega) only [gs, gs2, gs3, ↓reduceIte, Nat.reduceEqDiff, Nat.mul_one, Nat.add_zero, Nat.zero_add, Nat.zero_mul, Int.toNat_natCast, Int.reduceToNat, Nat.reduceMul, Nat.reduceAdd, decide_true, decide_false, Bool.not_true, Bool.not_false, true_and, and_true, List.map_cons, List.map_nil, List.nil_append, List.cons_append, List.append_nil, Option.map_some, Option.bind_some, List.getElem?_cons_zero, List.getElem?_cons_succ, Bool.false_eq_true, not_true_eq_false, not_false_eq_true, List.contains_cons, List.contains_nil, Nat.reduceBEq, Bool.true_or, Bool.false_or, Bool.or_true, List.set_cons_zero, List.set_cons_succ, List.length_cons, List.length_nil, isLd, Bool.true_and, Bool.false_and, Bool.and_true, Bool.and_false, eq_self, fa0_0c, fa0_1c, fi0_0c, fi0_1c]
  refine laws_toGraph_new (N := x0) (h0.sub s_b) (by omega) fun Ae0 G9 n_e0 => ?_
  have o_e0 := n_e0.own
  have t_e0 := n_e0.sub
  have s_b := s_b.trans t_e0
  have s_w := s_w.trans t_e0
  have s_i0 := s_i0.trans t_e0
  have s_x0 := s_x0.trans t_e0
  have s_i1 := s_i1.trans t_e0
  have s_g := s_g.trans t_e0
  have fa0_0c := rd_sub s_b fa0_0
  have fa0_1c := rd_sub s_b fa0_1
  have fi0_0c := rd_sub s_x0 fi0_0
  have fi0_1c := rd_sub s_x0 fi0_1
  have s_e0 := Sub.rest G8 G9
  simp (maxSteps := 300000) (disch := omega) only [gs, gs2, gs3, ↓reduceIte, Nat.reduceEqDiff, Nat.mul_one, Nat.add_zero, Nat.zero_add, Nat.zero_mul, Int.toNat_natCast, Int.reduceToNat, Nat.reduceMul, Nat.reduceAdd, decide_true, decide_false, Bool.not_true, Bool.not_false, true_and, and_true, List.map_cons, List.map_nil, List.nil_append, List.cons_append, List.append_nil, Option.map_some, Option.bind_some, List.getElem?_cons_zero, List.getElem?_cons_succ, Bool.false_eq_true, not_true_eq_false, not_false_eq_true, List.contains_cons, List.contains_nil, Nat.reduceBEq, Bool.true_or, Bool.false_or, Bool.or_true, List.set_cons_zero, List.set_cons_succ, List.length_cons, List.length_nil, isLd, Bool.true_and, Bool.false_and, Bool.and_true, Bool.and_false, fa0_0c, fa0_1c, fi0_0c, fi0_1c]
  refine laws_eqGraph_ok (N := x0) (M := x0) (o_i0.sub s_i0).t3 (o_e0.sub s_e0).t3 (by omega) fun b hb => ?_
  obtain rfl : b = true := hb.2 rfl
  simp (maxSteps := 300000) (disch := omega) only [gs, gs2, gs3, ↓reduceIte, Nat.reduceEqDiff, Nat.mul_one, Nat.add_zero, Nat.zero_add, Nat.zero_mul, Int.toNat_natCast, Int.reduceToNat, Nat.reduceMul, Nat.reduceAdd, decide_true, decide_false, Bool.not_true, Bool.not_false, true_and, and_true, List.map_cons, List.map_nil, List.nil_append, List.cons_append, List.append_nil, Option.map_some, Option.bind_some, List.getElem?_cons_zero, List.getElem?_cons_succ, Bool.false_eq_true, not_true_eq_false, not_false_eq_true, List.contains_cons, List.contains_nil, Nat.reduceBEq, Bool.true_or, Bool.false_or, Bool.or_true, List.set_cons_zero, List.set_cons_succ, List.length_cons, List.length_nil, isLd, Bool.true_and, Bool.false_and, Bool.and_true, Bool.and_false, fa0_0c, fa0_1c, fi0_0c, fi0_1c]
  refine laws_toInt64S_new (N := x1) (h1.sub s_b) (by omega) fun Ae1 G10 n_e1 => ?_
  have o_e1 := n_e1.own
  have t_e1 := n_e1.sub
  have s_b := s_b.trans t_e1
  have s_w := s_w.trans t_e1
  have s_i0 := s_i0.trans t_e1
  have s_x0 := s_x0.trans t_e1
  have s_i1 := s_i1.trans t_e1
  have s_g := s_g.trans t_e1
  have s_e0 := s_e0.trans t_e1
  have fa0_0c := rd_sub s_b fa0_0
  have fa0_1c := rd_sub s_b fa0_1
  have fi0_0c := rd_sub s_x0 fi0_0
  have fi0_1c := rd_sub s_x0 fi0_1
  have s_e1 := Sub.rest G9 G10
  simp (maxSteps := 300000) (disch := omega) only [gs, gs2, gs3, ↓reduceIte, Nat.reduceEqDiff, Nat.mul_one, Nat.add_zero, Nat.zero_add, Nat.zero_mul, Int.toNat_natCast, Int.reduceToNat, Nat.reduceMul, Nat.reduceAdd, decide_true, decide_false, Bool.not_true, Bool.not_false, true_and, and_true, List.map_cons, List.map_nil, List.nil_append, List.cons_append, List.append_nil, Option.map_some, Option.bind_some, List.getElem?_cons_zero, List.getElem?_cons_succ, Bool.false_eq_true, not_true_eq_false, not_false_eq_true, List.contains_cons, List.contains_nil, Nat.reduceBEq, Bool.true_or, Bool.false_or, Bool.or_true, List.set_cons_zero, List.set_cons_succ, List.length_cons, List.length_nil, isLd, Bool.true_and, Bool.false_and, Bool.and_true, Bool.and_false, fa0_0c, fa0_1c, fi0_0c, fi0_1c]
  refine laws_eqInt64S_ok (o_i1.sub s_i1).ints (o_e1.sub s_e1).ints (by omega) ?_
  simp (maxSteps := 300000) (disch := omega) only [gs, gs2, gs3, ↓reduceIte, Nat.reduceEqDiff, Nat.mul_one, Nat.add_zero, Nat.zero_add, Nat.zero_mul, Int.toNat_natCast, Int.reduceToNat, Nat.reduceMul, Nat.reduceAdd, decide_true, decide_false, Bool.not_true, Bool.not_false, true_and, and_true, List.map_cons, List.map_nil, List.nil_append, List.cons_append, List.append_nil, Option.map_some, Option.bind_some, List.getElem?_cons_zero, List.getElem?_cons_succ, Bool.false_eq_true, not_true_eq_false, not_false_eq_true, List.contains_cons, List.contains_nil, Nat.reduceBEq, Bool.true_or, Bool.false_or, Bool.or_true, List.set_cons_zero, List.set_cons_succ, List.length_cons, List.length_nil, isLd, Bool.true_and, Bool.false_and, Bool.and_true, Bool.and_false, eq_self, fa0_0c, fa0_1c, fi0_0c, fi0_1c]
  refine laws_markGraph_ok (N := x0) (o_i0.sub s_i0) (by omega) (by omega) fun G11 k0 k0a k0b u0 => ?_
  have s_b := u0.sub s_b f_b_i0
  have s_w := u0.sub s_w f_w_i0
  have s_x0 := u0.sub s_x0 f_x0_i0
  have s_i1 := u0.sub s_i1 f_i1_i0
  have s_g := u0.sub s_g f_g_i0
  have fa0_0c := rd_sub s_b fa0_0
  have fa0_1c := rd_sub s_b fa0_1
  have fi0_0c := rd_sub s_x0 fi0_0
  have fi0_1c := rd_sub s_x0 fi0_1
  simp (maxSteps := 300000) (disch := omega) only [gs, gs2, gs3, ↓reduceIte, Nat.reduceEqDiff, Nat.mul_one, Nat.add_zero, Nat.zero_add, Nat.zero_mul, Int.toNat_natCast, Int.reduceToNat, Nat.reduceMul, Nat.reduceAdd, decide_true, decide_false, Bool.not_true, Bool.not_false, true_and, and_true, List.map_cons, List.map_nil, List.nil_append, List.cons_append, List.append_nil, Option.map_some, Option.bind_some, List.getElem?_cons_zero, List.getElem?_cons_succ, Bool.false_eq_true, not_true_eq_false, not_false_eq_true, List.contains_cons, List.contains_nil, Nat.reduceBEq, Bool.true_or, Bool.false_or, Bool.or_true, List.set_cons_zero, List.set_cons_succ, List.length_cons, List.length_nil, isLd, Bool.true_and, Bool.false_and, Bool.and_true, Bool.and_false, fa0_0c, fa0_1c, fi0_0c, fi0_1c]
  refine laws_markInt64S_ok (o_i1.sub s_i1) (by omega) (by omega) fun G12 u1 _ => ?_
  have s_b := u1.sub s_b f_b_i1
  have s_w := u1.sub s_w f_w_i1
  have s_x0 := u1.sub s_x0 f_x0_i1
  have s_g := u1.sub s_g f_g_i1
  have fa0_0c := rd_sub s_b fa0_0
  have fa0_1c := rd_sub s_b fa0_1
  have fi0_0c := rd_sub s_x0 fi0_0
  have fi0_1c := rd_sub s_x0 fi0_1
  simp (maxSteps := 300000) (disch := omega) only [gs, gs2, gs3, ↓reduceIte, Nat.reduceEqDiff, Nat.mul_one, Nat.add_zero, Nat.zero_add, Nat.zero_mul, Int.toNat_natCast, Int.reduceToNat, Nat.reduceMul, Nat.reduceAdd, decide_true, decide_false, Bool.not_true, Bool.not_false, true_and, and_true, List.map_cons, List.map_nil, List.nil_append, List.cons_append, List.append_nil, Option.map_some, Option.bind_some, List.getElem?_cons_zero, List.getElem?_cons_succ, Bool.false_eq_true, not_true_eq_false, not_false_eq_true, List.contains_cons, List.contains_nil, Nat.reduceBEq, Bool.true_or, Bool.false_or, Bool.or_true, List.set_cons_zero, List.set_cons_succ, List.length_cons, List.length_nil, isLd, Bool.true_and, Bool.false_and, Bool.and_true, Bool.and_false, fa0_0c, fa0_1c, fi0_0c, fi0_1c]
  simp (maxSteps := 300000) (disch := omega) only [gs, gs2, gs3, ↓reduceIte, Nat.reduceEqDiff, Nat.mul_one, Nat.add_zero, Nat.zero_add, Nat.zero_mul, Int.toNat_natCast, Int.reduceToNat, Nat.reduceMul, Nat.reduceAdd, decide_true, decide_false, Bool.not_true, Bool.not_false, true_and, and_true, List.map_cons, List.map_nil, List.nil_append, List.cons_append, List.append_nil, Option.map_some, Option.bind_some, List.getElem?_cons_zero, List.getElem?_cons_succ, Bool.false_eq_true, not_true_eq_false, not_false_eq_true, List.contains_cons, List.contains_nil, Nat.reduceBEq, Bool.true_or, Bool.false_or, Bool.or_true, List.set_cons_zero, List.set_cons_succ, List.length_cons, List.length_nil, isLd, Bool.true_and, Bool.false_and, Bool.and_true, Bool.and_false, show ∀ z : Int, 0 ≤ z → (z < 0) = False from fun z hz => eq_false (by omega), fa0_0c, fa0_1c, fi0_0c, fi0_1c]
  refine laws_eqInt64S_ok (o_g.sub s_g).ints (o_w.sub s_w).ints (by omega) ?_
  simp (maxSteps := 300000) (disch := omega) only [gs, gs2, gs3, ↓reduceIte, Nat.reduceEqDiff, Nat.mul_one, Nat.add_zero, Nat.zero_add, Nat.zero_mul, Int.toNat_natCast, Int.reduceToNat, Nat.reduceMul, Nat.reduceAdd, decide_true, decide_false, Bool.not_true, Bool.not_false, true_and, and_true, List.map_cons, List.map_nil, List.nil_append, List.cons_append, List.append_nil, Option.map_some, Option.bind_some, List.getElem?_cons_zero, List.getElem?_cons_succ, Bool.false_eq_true, not_true_eq_false, not_false_eq_true, List.contains_cons, List.contains_nil, Nat.reduceBEq, Bool.true_or, Bool.false_or, Bool.or_true, List.set_cons_zero, List.set_cons_succ, List.length_cons, List.length_nil, isLd, Bool.true_and, Bool.false_and, Bool.and_true, Bool.and_false, eq_self, fa0_0c, fa0_1c, fi0_0c, fi0_1c]
  refine laws_markInt64S_ok (o_g.sub s_g) (by omega) (by omega) fun G13 ug om => ?_
  have s_b := ug.sub s_b f_b_g
  have s_w := ug.sub s_w f_w_g
  have s_x0 := ug.sub s_x0 f_x0_g
  have fa0_0c := rd_sub s_b fa0_0
  have fa0_1c := rd_sub s_b fa0_1
  have fi0_0c := rd_sub s_x0 fi0_0
  have fi0_1c := rd_sub s_x0 fi0_1
  have s_m := Sub.refl G13
  simp (maxSteps := 300000) (disch := omega) only [gs, gs2, gs3, ↓reduceIte, Nat.reduceEqDiff, Nat.mul_one, Nat.add_zero, Nat.zero_add, Nat.zero_mul, Int.toNat_natCast, Int.reduceToNat, Nat.reduceMul, Nat.reduceAdd, decide_true, decide_false, Bool.not_true, Bool.not_false, true_and, and_true, List.map_cons, List.map_nil, List.nil_append, List.cons_append, List.append_nil, Option.map_some, Option.bind_some, List.getElem?_cons_zero, List.getElem?_cons_succ, Bool.false_eq_true, not_true_eq_false, not_false_eq_true, List.contains_cons, List.contains_nil, Nat.reduceBEq, Bool.true_or, Bool.false_or, Bool.or_true, List.set_cons_zero, List.set_cons_succ, List.length_cons, List.length_nil, isLd, Bool.true_and, Bool.false_and, Bool.and_true, Bool.and_false, fa0_0c, fa0_1c, fi0_0c, fi0_1c]
  refine laws_heldInt64S_ok (om.sub s_m).mk (by omega) (by omega) ?_
  simp (maxSteps := 300000) (disch := omega) only [gs, gs2, gs3, ↓reduceIte, Nat.reduceEqDiff, Nat.mul_one, Nat.add_zero, Nat.zero_add, Nat.zero_mul, Int.toNat_natCast, Int.reduceToNat, Nat.reduceMul, Nat.reduceAdd, decide_true, decide_false, Bool.not_true, Bool.not_false, true_and, and_true, List.map_cons, List.map_nil, List.nil_append, List.cons_append, List.append_nil, Option.map_some, Option.bind_some, List.getElem?_cons_zero, List.getElem?_cons_succ, Bool.false_eq_true, not_true_eq_false, not_false_eq_true, List.contains_cons, List.contains_nil, Nat.reduceBEq, Bool.true_or, Bool.false_or, Bool.or_true, List.set_cons_zero, List.set_cons_succ, List.length_cons, List.length_nil, isLd, Bool.true_and, Bool.false_and, Bool.and_true, Bool.and_false, eq_self, show (1 + ((fewV x0 x1 x2 x3 x4).1.length : Int) < 0) = False from eq_false (by omega), fa0_0c, fa0_1c, fi0_0c, fi0_1c]
  refine laws_toGraph_new (N := x0) (h0.sub s_b) (by omega) fun Ah0 G14 n_h0 => ?_
  have o_h0 := n_h0.own
  have t_h0 := n_h0.sub
  have s_b := s_b.trans t_h0
  have s_w := s_w.trans t_h0
  have s_x0 := s_x0.trans t_h0
  have s_m := s_m.trans t_h0
  have fa0_0c := rd_sub s_b fa0_0
  have fa0_1c := rd_sub s_b fa0_1
  have fi0_0c := rd_sub s_x0 fi0_0
  have fi0_1c := rd_sub s_x0 fi0_1
  have s_h0 := Sub.rest G13 G14
  simp (maxSteps := 300000) (disch := omega) only [gs, gs2, gs3, ↓reduceIte, Nat.reduceEqDiff, Nat.mul_one, Nat.add_zero, Nat.zero_add, Nat.zero_mul, Int.toNat_natCast, Int.reduceToNat, Nat.reduceMul, Nat.reduceAdd, decide_true, decide_false, Bool.not_true, Bool.not_false, true_and, and_true, List.map_cons, List.map_nil, List.nil_append, List.cons_append, List.append_nil, Option.map_some, Option.bind_some, List.getElem?_cons_zero, List.getElem?_cons_succ, Bool.false_eq_true, not_true_eq_false, not_false_eq_true, List.contains_cons, List.contains_nil, Nat.reduceBEq, Bool.true_or, Bool.false_or, Bool.or_true, List.set_cons_zero, List.set_cons_succ, List.length_cons, List.length_nil, isLd, Bool.true_and, Bool.false_and, Bool.and_true, Bool.and_false, fa0_0c, fa0_1c, fi0_0c, fi0_1c]
  refine laws_toInt64S_new (N := x1) (h1.sub s_b) (by omega) fun Ah1 G15 n_h1 => ?_
  have o_h1 := n_h1.own
  have t_h1 := n_h1.sub
  have s_b := s_b.trans t_h1
  have s_w := s_w.trans t_h1
  have s_x0 := s_x0.trans t_h1
  have s_m := s_m.trans t_h1
  have s_h0 := s_h0.trans t_h1
  have fa0_0c := rd_sub s_b fa0_0
  have fa0_1c := rd_sub s_b fa0_1
  have fi0_0c := rd_sub s_x0 fi0_0
  have fi0_1c := rd_sub s_x0 fi0_1
  have s_h1 := Sub.rest G14 G15
  simp (maxSteps := 300000) (disch := omega) only [gs, gs2, gs3, ↓reduceIte, Nat.reduceEqDiff, Nat.mul_one, Nat.add_zero, Nat.zero_add, Nat.zero_mul, Int.toNat_natCast, Int.reduceToNat, Nat.reduceMul, Nat.reduceAdd, decide_true, decide_false, Bool.not_true, Bool.not_false, true_and, and_true, List.map_cons, List.map_nil, List.nil_append, List.cons_append, List.append_nil, Option.map_some, Option.bind_some, List.getElem?_cons_zero, List.getElem?_cons_succ, Bool.false_eq_true, not_true_eq_false, not_false_eq_true, List.contains_cons, List.contains_nil, Nat.reduceBEq, Bool.true_or, Bool.false_or, Bool.or_true, List.set_cons_zero, List.set_cons_succ, List.length_cons, List.length_nil, isLd, Bool.true_and, Bool.false_and, Bool.and_true, Bool.and_false, fa0_0c, fa0_1c, fi0_0c, fi0_1c]
  refine impl_FewestFixed_ok (o_h0.sub s_h0).t3 (o_h1.sub s_h1).ints (by omega) (by omega) fun G16 Ah ch n_h => ?_
  have o_h := n_h.own
  have t_h := n_h.sub
  have s_b := s_b.trans t_h
  have s_w := s_w.trans t_h
  have s_x0 := s_x0.trans t_h
  have s_m := s_m.trans t_h
  have s_h0 := s_h0.trans t_h
  have s_h1 := s_h1.trans t_h
  have fa0_0c := rd_sub s_b fa0_0
  have fa0_1c := rd_sub s_b fa0_1
  have fi0_0c := rd_sub s_x0 fi0_0
  have fi0_1c := rd_sub s_x0 fi0_1
  have s_h := Sub.rest G15 G16
  simp (maxSteps := 300000) (disch := omega) only [gs, gs2, gs3, ↓reduceIte, Nat.reduceEqDiff, Nat.mul_one, Nat.add_zero, Nat.zero_add, Nat.zero_mul, Int.toNat_natCast, Int.reduceToNat, Nat.reduceMul, Nat.reduceAdd, decide_true, decide_false, Bool.not_true, Bool.not_false, true_and, and_true, List.map_cons, List.map_nil, List.nil_append, List.cons_append, List.append_nil, Option.map_some, Option.bind_some, List.getElem?_cons_zero, List.getElem?_cons_succ, Bool.false_eq_true, not_true_eq_false, not_false_eq_true, List.contains_cons, List.contains_nil, Nat.reduceBEq, Bool.true_or, Bool.false_or, Bool.or_true, List.set_cons_zero, List.set_cons_succ, List.length_cons, List.length_nil, isLd, Bool.true_and, Bool.false_and, Bool.and_true, Bool.and_false, fa0_0c, fa0_1c, fi0_0c, fi0_1c]
  refine laws_eqInt64S_ok (o_h.sub s_h).ints (o_w.sub s_w).ints (by omega) ?_
  simp (maxSteps := 300000) (disch := omega) only [gs, gs2, gs3, ↓reduceIte, Nat.reduceEqDiff, Nat.mul_one, Nat.add_zero, Nat.zero_add, Nat.zero_mul, Int.toNat_natCast, Int.reduceToNat, Nat.reduceMul, Nat.reduceAdd, decide_true, decide_false, Bool.not_true, Bool.not_false, true_and, and_true, List.map_cons, List.map_nil, List.nil_append, List.cons_append, List.append_nil, Option.map_some, Option.bind_some, List.getElem?_cons_zero, List.getElem?_cons_succ, Bool.false_eq_true, not_true_eq_false, not_false_eq_true, List.contains_cons, List.contains_nil, Nat.reduceBEq, Bool.true_or, Bool.false_or, Bool.or_true, List.set_cons_zero, List.set_cons_succ, List.length_cons, List.length_nil, isLd, Bool.true_and, Bool.false_and, Bool.and_true, Bool.and_false, eq_self, fa0_0c, fa0_1c, fi0_0c, fi0_1c]
  refine laws_heldInt64S_ok (om.sub s_m).mk (by omega) (by omega) ?_
  simp (maxSteps := 300000) (disch := omega) only [gs, gs2, gs3, ↓reduceIte, Nat.reduceEqDiff, Nat.mul_one, Nat.add_zero, Nat.zero_add, Nat.zero_mul, Int.toNat_natCast, Int.reduceToNat, Nat.reduceMul, Nat.reduceAdd, decide_true, decide_false, Bool.not_true, Bool.not_false, true_and, and_true, List.map_cons, List.map_nil, List.nil_append, List.cons_append, List.append_nil, Option.map_some, Option.bind_some, List.getElem?_cons_zero, List.getElem?_cons_succ, Bool.false_eq_true, not_true_eq_false, not_false_eq_true, List.contains_cons, List.contains_nil, Nat.reduceBEq, Bool.true_or, Bool.false_or, Bool.or_true, List.set_cons_zero, List.set_cons_succ, List.length_cons, List.length_nil, isLd, Bool.true_and, Bool.false_and, Bool.and_true, Bool.and_false, eq_self, show (1 + ((fewV x0 x1 x2 x3 x4).1.length : Int) < 0) = False from eq_false (by omega), fa0_0c, fa0_1c, fi0_0c, fi0_1c]

end Go.Proofs.Ytmlkgpoakkgjbaa.Gh
