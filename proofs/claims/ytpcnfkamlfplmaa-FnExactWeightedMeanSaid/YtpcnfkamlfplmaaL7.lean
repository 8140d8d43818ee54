/- Laws, from the contracts (printed by law.py). -/
import Derived.Test.YtpcnfkamlfplmaaG3
import Derived.Test.YtpcnfkamlfplmaaFz
namespace Go.Proofs.Ytpcnfkamlfplmaa.Gh
open Go Go.RowKit Go.Proofs
set_option linter.unusedVariables false
set_option linter.unusedSimpArgs false
set_option maxHeartbeats 4000000

theorem law_WeightedMean {G : GH} {v0 : Value} {v1 : Value} {x0 : Gra} {x1 : List Int} (h0 : GraphV G v0 x0) (h1 : IntsV G v1 x1) : GC Try.prog 13 [v0, v1] G fun v _ => v = .bool true := by
  obtain ⟨A0, c0, rfl, h0, e0, l0, rn0⟩ := h0
  obtain ⟨A1, c1, rfl, h1, e1, l1⟩ := h1
  refine c_laws_FnExactWeightedMean_i (by simp) ?_
  unfold graV graC
  simp (maxSteps := 300000) (disch := omega) only [gs, ↓reduceIte, Nat.reduceEqDiff, Nat.mul_one, Nat.add_zero, Nat.zero_add, Nat.zero_mul, Int.toNat_natCast, Int.reduceToNat, Nat.reduceMul, Nat.reduceAdd, decide_true, decide_false, Bool.not_true, Bool.not_false, true_and, and_true, List.map_cons, List.map_nil, List.nil_append, List.cons_append, List.append_nil, Option.map_some, Option.bind_some, List.getElem?_cons_zero, List.getElem?_cons_succ, Bool.false_eq_true, not_true_eq_false, not_false_eq_true, List.contains_cons, List.contains_nil, Nat.reduceBEq, Bool.true_or, Bool.false_or, Bool.or_true, List.set_cons_zero, List.set_cons_succ, List.length_cons, List.length_nil, isLd, Bool.true_and, Bool.false_and, Bool.and_true, Bool.and_false]
  intro p0 hp0
  generalize hG1 : put G p0 ⟨[.int .i64 x0.n, .slice A0 x0.edges.length c0], true⟩ = G1
  have s1 : Sub G G1 := hG1 ▸ Sub.put hp0 _
  have h0 := h0.sub s1
  have h1 := h1.sub s1
  have fa0_0 : rd G1 (some ⟨p0, 0, none⟩) = some (.int .i64 x0.n) := by rw [← hG1]; exact rd_box _ _ _ 0 _ rfl
  have fa0_1 : rd G1 (some ⟨p0, 1, none⟩) = some (.slice A0 x0.edges.length c0) := by rw [← hG1]; exact rd_box _ _ _ 1 _ rfl
  simp (maxSteps := 300000) (disch := omega) only [gs, ↓reduceIte, Nat.reduceEqDiff, Nat.mul_one, Nat.add_zero, Nat.zero_add, Nat.zero_mul, Int.toNat_natCast, Int.reduceToNat, Nat.reduceMul, Nat.reduceAdd, decide_true, decide_false, Bool.not_true, Bool.not_false, true_and, and_true, List.map_cons, List.map_nil, List.nil_append, List.cons_append, List.append_nil, Option.map_some, Option.bind_some, List.getElem?_cons_zero, List.getElem?_cons_succ, Bool.false_eq_true, not_true_eq_false, not_false_eq_true, List.contains_cons, List.contains_nil, Nat.reduceBEq, Bool.true_or, Bool.false_or, Bool.or_true, List.set_cons_zero, List.set_cons_succ, List.length_cons, List.length_nil, isLd, Bool.true_and, Bool.false_and, Bool.and_true, Bool.and_false, fa0_0, fa0_1]
  by_cases g1 : (1048576 : Int) < x1.length
  · simp (maxSteps := 300000) (disch := omega) only [gs, ↓reduceIte, Nat.reduceEqDiff, Nat.mul_one, Nat.add_zero, Nat.zero_add, Nat.zero_mul, Int.toNat_natCast, Int.reduceToNat, Nat.reduceMul, Nat.reduceAdd, decide_true, decide_false, Bool.not_true, Bool.not_false, true_and, and_true, List.map_cons, List.map_nil, List.nil_append, List.cons_append, List.append_nil, Option.map_some, Option.bind_some, List.getElem?_cons_zero, List.getElem?_cons_succ, Bool.false_eq_true, not_true_eq_false, not_false_eq_true, List.contains_cons, List.contains_nil, Nat.reduceBEq, Bool.true_or, Bool.false_or, Bool.or_true, List.set_cons_zero, List.set_cons_succ, List.length_cons, List.length_nil, isLd, Bool.true_and, Bool.false_and, Bool.and_true, Bool.and_false, g1, fa0_0, fa0_1]
  simp (maxSteps := 300000) (disch := omega) only [gs, ↓reduceIte, Nat.reduceEqDiff, Nat.mul_one, Nat.add_zero, Nat.zero_add, Nat.zero_mul, Int.toNat_natCast, Int.reduceToNat, Nat.reduceMul, Nat.reduceAdd, decide_true, decide_false, Bool.not_true, Bool.not_false, true_and, and_true, List.map_cons, List.map_nil, List.nil_append, List.cons_append, List.append_nil, Option.map_some, Option.bind_some, List.getElem?_cons_zero, List.getElem?_cons_succ, Bool.false_eq_true, not_true_eq_false, not_false_eq_true, List.contains_cons, List.contains_nil, Nat.reduceBEq, Bool.true_or, Bool.false_or, Bool.or_true, List.set_cons_zero, List.set_cons_succ, List.length_cons, List.length_nil, isLd, Bool.true_and, Bool.false_and, Bool.and_true, Bool.and_false, g1, fa0_0, fa0_1]
  refine laws_szGraph_ok (N := x0) ⟨by omega, by omega⟩ (by omega) fun q0 q0a q0b q0c => ?_
  simp (maxSteps := 300000) (disch := omega) only [gs, ↓reduceIte, Nat.reduceEqDiff, Nat.mul_one, Nat.add_zero, Nat.zero_add, Nat.zero_mul, Int.toNat_natCast, Int.reduceToNat, Nat.reduceMul, Nat.reduceAdd, decide_true, decide_false, Bool.not_true, Bool.not_false, true_and, and_true, List.map_cons, List.map_nil, List.nil_append, List.cons_append, List.append_nil, Option.map_some, Option.bind_some, List.getElem?_cons_zero, List.getElem?_cons_succ, Bool.false_eq_true, not_true_eq_false, not_false_eq_true, List.contains_cons, List.contains_nil, Nat.reduceBEq, Bool.true_or, Bool.false_or, Bool.or_true, List.set_cons_zero, List.set_cons_succ, List.length_cons, List.length_nil, isLd, Bool.true_and, Bool.false_and, Bool.and_true, Bool.and_false, fa0_0, fa0_1]
  by_cases g0 : q0 < 0
  · simp (maxSteps := 300000) (disch := omega) only [gs, ↓reduceIte, Nat.reduceEqDiff, Nat.mul_one, Nat.add_zero, Nat.zero_add, Nat.zero_mul, Int.toNat_natCast, Int.reduceToNat, Nat.reduceMul, Nat.reduceAdd, decide_true, decide_false, Bool.not_true, Bool.not_false, true_and, and_true, List.map_cons, List.map_nil, List.nil_append, List.cons_append, List.append_nil, Option.map_some, Option.bind_some, List.getElem?_cons_zero, List.getElem?_cons_succ, Bool.false_eq_true, not_true_eq_false, not_false_eq_true, List.contains_cons, List.contains_nil, Nat.reduceBEq, Bool.true_or, Bool.false_or, Bool.or_true, List.set_cons_zero, List.set_cons_succ, List.length_cons, List.length_nil, isLd, Bool.true_and, Bool.false_and, Bool.and_true, Bool.and_false, g0, fa0_0, fa0_1]
  simp (maxSteps := 300000) (disch := omega) only [gs, ↓reduceIte, Nat.reduceEqDiff, Nat.mul_one, Nat.add_zero, Nat.zero_add, Nat.zero_mul, Int.toNat_natCast, Int.reduceToNat, Nat.reduceMul, Nat.reduceAdd, decide_true, decide_false, Bool.not_true, Bool.not_false, true_and, and_true, List.map_cons, List.map_nil, List.nil_append, List.cons_append, List.append_nil, Option.map_some, Option.bind_some, List.getElem?_cons_zero, List.getElem?_cons_succ, Bool.false_eq_true, not_true_eq_false, not_false_eq_true, List.contains_cons, List.contains_nil, Nat.reduceBEq, Bool.true_or, Bool.false_or, Bool.or_true, List.set_cons_zero, List.set_cons_succ, List.length_cons, List.length_nil, isLd, Bool.true_and, Bool.false_and, Bool.and_true, Bool.and_false, g0, fa0_0, fa0_1]
  refine laws_toGraph_ok' (N := x0) h0 (by omega) fun As0 G2 s2 hs0 => ?_
  have h0 := h0.sub s2
  have h1 := h1.sub s2
  have fa0_0 := rd_sub s2 fa0_0
  have fa0_1 := rd_sub s2 fa0_1
  simp (maxSteps := 300000) (disch := omega) only [gs, ↓reduceIte, Nat.reduceEqDiff, Nat.mul_one, Nat.add_zero, Nat.zero_add, Nat.zero_mul, Int.toNat_natCast, Int.reduceToNat, Nat.reduceMul, Nat.reduceAdd, decide_true, decide_false, Bool.not_true, Bool.not_false, true_and, and_true, List.map_cons, List.map_nil, List.nil_append, List.cons_append, List.append_nil, Option.map_some, Option.bind_some, List.getElem?_cons_zero, List.getElem?_cons_succ, Bool.false_eq_true, not_true_eq_false, not_false_eq_true, List.contains_cons, List.contains_nil, Nat.reduceBEq, Bool.true_or, Bool.false_or, Bool.or_true, List.set_cons_zero, List.set_cons_succ, List.length_cons, List.length_nil, isLd, Bool.true_and, Bool.false_and, Bool.and_true, Bool.and_false, fa0_0, fa0_1]
  refine laws_toInt64S_ok' (N := x1) h1 (by omega) fun As1 G3 s3 hs1 => ?_
  have h0 := h0.sub s3
  have h1 := h1.sub s3
  have hs0 := hs0.sub s3
  have fa0_0 := rd_sub s3 fa0_0
  have fa0_1 := rd_sub s3 fa0_1
  simp (maxSteps := 300000) (disch := omega) only [gs, ↓reduceIte, Nat.reduceEqDiff, Nat.mul_one, Nat.add_zero, Nat.zero_add, Nat.zero_mul, Int.toNat_natCast, Int.reduceToNat, Nat.reduceMul, Nat.reduceAdd, decide_true, decide_false, Bool.not_true, Bool.not_false, true_and, and_true, List.map_cons, List.map_nil, List.nil_append, List.cons_append, List.append_nil, Option.map_some, Option.bind_some, List.getElem?_cons_zero, List.getElem?_cons_succ, Bool.false_eq_true, not_true_eq_false, not_false_eq_true, List.contains_cons, List.contains_nil, Nat.reduceBEq, Bool.true_or, Bool.false_or, Bool.or_true, List.set_cons_zero, List.set_cons_succ, List.length_cons, List.length_nil, isLd, Bool.true_and, Bool.false_and, Bool.and_true, Bool.and_false, fa0_0, fa0_1]
  refine spec_WeightedMean_ok hs0 hs1 (by omega) (by omega) ?_
  simp (maxSteps := 300000) (disch := omega) only [gs, ↓reduceIte, Nat.reduceEqDiff, Nat.mul_one, Nat.add_zero, Nat.zero_add, Nat.zero_mul, Int.toNat_natCast, Int.reduceToNat, Nat.reduceMul, Nat.reduceAdd, decide_true, decide_false, Bool.not_true, Bool.not_false, true_and, and_true, List.map_cons, List.map_nil, List.nil_append, List.cons_append, List.append_nil, Option.map_some, Option.bind_some, List.getElem?_cons_zero, List.getElem?_cons_succ, Bool.false_eq_true, not_true_eq_false, not_false_eq_true, List.contains_cons, List.contains_nil, Nat.reduceBEq, Bool.true_or, Bool.false_or, Bool.or_true, List.set_cons_zero, List.set_cons_succ, List.length_cons, List.length_nil, isLd, Bool.true_and, Bool.false_and, Bool.and_true, Bool.and_false, pairV, fa0_0, fa0_1]
  refine laws_toGraph_ok' (N := x0) h0 (by omega) fun Ai0 G4 s4 hi0 => ?_
  have h0 := h0.sub s4
  have h1 := h1.sub s4
  have hs0 := hs0.sub s4
  have hs1 := hs1.sub s4
  have fa0_0 := rd_sub s4 fa0_0
  have fa0_1 := rd_sub s4 fa0_1
  simp (maxSteps := 300000) (disch := omega) only [gs, ↓reduceIte, Nat.reduceEqDiff, Nat.mul_one, Nat.add_zero, Nat.zero_add, Nat.zero_mul, Int.toNat_natCast, Int.reduceToNat, Nat.reduceMul, Nat.reduceAdd, decide_true, decide_false, Bool.not_true, Bool.not_false, true_and, and_true, List.map_cons, List.map_nil, List.nil_append, List.cons_append, List.append_nil, Option.map_some, Option.bind_some, List.getElem?_cons_zero, List.getElem?_cons_succ, Bool.false_eq_true, not_true_eq_false, not_false_eq_true, List.contains_cons, List.contains_nil, Nat.reduceBEq, Bool.true_or, Bool.false_or, Bool.or_true, List.set_cons_zero, List.set_cons_succ, List.length_cons, List.length_nil, isLd, Bool.true_and, Bool.false_and, Bool.and_true, Bool.and_false, fa0_0, fa0_1]
  intro p2 hp2
  simp (maxSteps := 300000) (disch := omega) only [gs, ↓reduceIte, Nat.reduceEqDiff, Nat.mul_one, Nat.add_zero, Nat.zero_add, Nat.zero_mul, Int.toNat_natCast, Int.reduceToNat, Nat.reduceMul, Nat.reduceAdd, decide_true, decide_false, Bool.not_true, Bool.not_false, true_and, and_true, List.map_cons, List.map_nil, List.nil_append, List.cons_append, List.append_nil, Option.map_some, Option.bind_some, List.getElem?_cons_zero, List.getElem?_cons_succ, Bool.false_eq_true, not_true_eq_false, not_false_eq_true, List.contains_cons, List.contains_nil, Nat.reduceBEq, Bool.true_or, Bool.false_or, Bool.or_true, List.set_cons_zero, List.set_cons_succ, List.length_cons, List.length_nil, isLd, Bool.true_and, Bool.false_and, Bool.and_true, Bool.and_false, fa0_0, fa0_1]
  refine st_fresh (vs := [.int .i64 x0.n, .slice Ai0 x0.edges.length x0.edges.length]) rfl rfl rfl (by intro v hv; simp only [List.mem_cons, List.not_mem_nil, or_false] at hv; rcases hv with rfl | rfl <;> rfl) ?_
  generalize hG5 : put G4 p2 ⟨[.int .i64 x0.n, .slice Ai0 x0.edges.length x0.edges.length], true⟩ = G5
  have s5 : Sub G4 G5 := hG5 ▸ Sub.put hp2 _
  have h0 := h0.sub s5
  have h1 := h1.sub s5
  have hs0 := hs0.sub s5
  have hs1 := hs1.sub s5
  have hi0 := hi0.sub s5
  have fa0_0 := rd_sub s5 fa0_0
  have fa0_1 := rd_sub s5 fa0_1
  have fi0_0 : rd G5 (some ⟨p2, 0, none⟩) = some (.int .i64 x0.n) := by rw [← hG5]; exact rd_box _ _ _ 0 _ rfl
  have fi0_1 : rd G5 (some ⟨p2, 1, none⟩) = some (.slice Ai0 x0.edges.length x0.edges.length) := by rw [← hG5]; exact rd_box _ _ _ 1 _ rfl
  simp (maxSteps := 300000) (disch := omega) only [gs, ↓reduceIte, Nat.reduceEqDiff, Nat.mul_one, Nat.add_zero, Nat.zero_add, Nat.zero_mul, Int.toNat_natCast, Int.reduceToNat, Nat.reduceMul, Nat.reduceAdd, decide_true, decide_false, Bool.not_true, Bool.not_false, true_and, and_true, List.map_cons, List.map_nil, List.nil_append, List.cons_append, List.append_nil, Option.map_some, Option.bind_some, List.getElem?_cons_zero, List.getElem?_cons_succ, Bool.false_eq_true, not_true_eq_false, not_false_eq_true, List.contains_cons, List.contains_nil, Nat.reduceBEq, Bool.true_or, Bool.false_or, Bool.or_true, List.set_cons_zero, List.set_cons_succ, List.length_cons, List.length_nil, isLd, Bool.true_and, Bool.false_and, Bool.and_true, Bool.and_false, fa0_0, fa0_1, fi0_0, fi0_1]
  refine laws_toInt64S_ok' (N := x1) h1 (by omega) fun Ai1 G6 s6 hi1 => ?_
  have h0 := h0.sub s6
  have h1 := h1.sub s6
  have hs0 := hs0.sub s6
  have hs1 := hs1.sub s6
  have hi0 := hi0.sub s6
  have fa0_0 := rd_sub s6 fa0_0
  have fa0_1 := rd_sub s6 fa0_1
  have fi0_0 := rd_sub s6 fi0_0
  have fi0_1 := rd_sub s6 fi0_1
  simp (maxSteps := 300000) (disch := omega) only [gs, ↓reduceIte, Nat.reduceEqDiff, Nat.mul_one, Nat.add_zero, Nat.zero_add, Nat.zero_mul, Int.toNat_natCast, Int.reduceToNat, Nat.reduceMul, Nat.reduceAdd, decide_true, decide_false, Bool.not_true, Bool.not_false, true_and, and_true, List.map_cons, List.map_nil, List.nil_append, List.cons_append, List.append_nil, Option.map_some, Option.bind_some, List.getElem?_cons_zero, List.getElem?_cons_succ, Bool.false_eq_true, not_true_eq_false, not_false_eq_true, List.contains_cons, List.contains_nil, Nat.reduceBEq, Bool.true_or, Bool.false_or, Bool.or_true, List.set_cons_zero, List.set_cons_succ, List.length_cons, List.length_nil, isLd, Bool.true_and, Bool.false_and, Bool.and_true, Bool.and_false, fa0_0, fa0_1, fi0_0, fi0_1]
  refine impl_WeightedMean_ok hi0 hi1 (by omega) (by omega) ?_
  simp (maxSteps := 300000) (disch := omega) only [gs, ↓reduceIte, Nat.reduceEqDiff, Nat.mul_one, Nat.add_zero, Nat.zero_add, Nat.zero_mul, Int.toNat_natCast, Int.reduceToNat, Nat.reduceMul, Nat.reduceAdd, decide_true, decide_false, Bool.not_true, Bool.not_false, true_and, and_true, List.map_cons, List.map_nil, List.nil_append, List.cons_append, List.append_nil, Option.map_some, Option.bind_some, List.getElem?_cons_zero, List.getElem?_cons_succ, Bool.false_eq_true, not_true_eq_false, not_false_eq_true, List.contains_cons, List.contains_nil, Nat.reduceBEq, Bool.true_or, Bool.false_or, Bool.or_true, List.set_cons_zero, List.set_cons_succ, List.length_cons, List.length_nil, isLd, Bool.true_and, Bool.false_and, Bool.and_true, Bool.and_false, pairV, eq_self, fa0_0, fa0_1, fi0_0, fi0_1]
  refine laws_toGraph_ok' (N := x0) h0 (by omega) fun Ae0 G7 s7 he0 => ?_
  have h0 := h0.sub s7
  have h1 := h1.sub s7
  have hs0 := hs0.sub s7
  have hs1 := hs1.sub s7
  have hi0 := hi0.sub s7
  have hi1 := hi1.sub s7
  have fa0_0 := rd_sub s7 fa0_0
  have fa0_1 := rd_sub s7 fa0_1
  have fi0_0 := rd_sub s7 fi0_0
  have fi0_1 := rd_sub s7 fi0_1
  simp (maxSteps := 300000) (disch := omega) only [gs, ↓reduceIte, Nat.reduceEqDiff, Nat.mul_one, Nat.add_zero, Nat.zero_add, Nat.zero_mul, Int.toNat_natCast, Int.reduceToNat, Nat.reduceMul, Nat.reduceAdd, decide_true, decide_false, Bool.not_true, Bool.not_false, true_and, and_true, List.map_cons, List.map_nil, List.nil_append, List.cons_append, List.append_nil, Option.map_some, Option.bind_some, List.getElem?_cons_zero, List.getElem?_cons_succ, Bool.false_eq_true, not_true_eq_false, not_false_eq_true, List.contains_cons, List.contains_nil, Nat.reduceBEq, Bool.true_or, Bool.false_or, Bool.or_true, List.set_cons_zero, List.set_cons_succ, List.length_cons, List.length_nil, isLd, Bool.true_and, Bool.false_and, Bool.and_true, Bool.and_false, fa0_0, fa0_1, fi0_0, fi0_1]
  refine laws_eqGraph_ok (N := x0) (M := x0) hi0 he0 (by omega) fun b hb => ?_
  obtain rfl : b = true := hb.2 rfl
  simp (maxSteps := 300000) (disch := omega) only [gs, ↓reduceIte, Nat.reduceEqDiff, Nat.mul_one, Nat.add_zero, Nat.zero_add, Nat.zero_mul, Int.toNat_natCast, Int.reduceToNat, Nat.reduceMul, Nat.reduceAdd, decide_true, decide_false, Bool.not_true, Bool.not_false, true_and, and_true, List.map_cons, List.map_nil, List.nil_append, List.cons_append, List.append_nil, Option.map_some, Option.bind_some, List.getElem?_cons_zero, List.getElem?_cons_succ, Bool.false_eq_true, not_true_eq_false, not_false_eq_true, List.contains_cons, List.contains_nil, Nat.reduceBEq, Bool.true_or, Bool.false_or, Bool.or_true, List.set_cons_zero, List.set_cons_succ, List.length_cons, List.length_nil, isLd, Bool.true_and, Bool.false_and, Bool.and_true, Bool.and_false, fa0_0, fa0_1, fi0_0, fi0_1]
  refine laws_toInt64S_ok' (N := x1) h1 (by omega) fun Ae1 G8 s8 he1 => ?_
  have h0 := h0.sub s8
  have h1 := h1.sub s8
  have hs0 := hs0.sub s8
  have hs1 := hs1.sub s8
  have hi0 := hi0.sub s8
  have hi1 := hi1.sub s8
  have he0 := he0.sub s8
  have fa0_0 := rd_sub s8 fa0_0
  have fa0_1 := rd_sub s8 fa0_1
  have fi0_0 := rd_sub s8 fi0_0
  have fi0_1 := rd_sub s8 fi0_1
  simp (maxSteps := 300000) (disch := omega) only [gs, ↓reduceIte, Nat.reduceEqDiff, Nat.mul_one, Nat.add_zero, Nat.zero_add, Nat.zero_mul, Int.toNat_natCast, Int.reduceToNat, Nat.reduceMul, Nat.reduceAdd, decide_true, decide_false, Bool.not_true, Bool.not_false, true_and, and_true, List.map_cons, List.map_nil, List.nil_append, List.cons_append, List.append_nil, Option.map_some, Option.bind_some, List.getElem?_cons_zero, List.getElem?_cons_succ, Bool.false_eq_true, not_true_eq_false, not_false_eq_true, List.contains_cons, List.contains_nil, Nat.reduceBEq, Bool.true_or, Bool.false_or, Bool.or_true, List.set_cons_zero, List.set_cons_succ, List.length_cons, List.length_nil, isLd, Bool.true_and, Bool.false_and, Bool.and_true, Bool.and_false, fa0_0, fa0_1, fi0_0, fi0_1]
  refine laws_eqInt64S_ok hi1 he1 (by omega) ?_
  simp (maxSteps := 300000) (disch := omega) only [gs, ↓reduceIte, Nat.reduceEqDiff, Nat.mul_one, Nat.add_zero, Nat.zero_add, Nat.zero_mul, Int.toNat_natCast, Int.reduceToNat, Nat.reduceMul, Nat.reduceAdd, decide_true, decide_false, Bool.not_true, Bool.not_false, true_and, and_true, List.map_cons, List.map_nil, List.nil_append, List.cons_append, List.append_nil, Option.map_some, Option.bind_some, List.getElem?_cons_zero, List.getElem?_cons_succ, Bool.false_eq_true, not_true_eq_false, not_false_eq_true, List.contains_cons, List.contains_nil, Nat.reduceBEq, Bool.true_or, Bool.false_or, Bool.or_true, List.set_cons_zero, List.set_cons_succ, List.length_cons, List.length_nil, isLd, Bool.true_and, Bool.false_and, Bool.and_true, Bool.and_false, eq_self, fa0_0, fa0_1, fi0_0, fi0_1]

end Go.Proofs.Ytpcnfkamlfplmaa.Gh
