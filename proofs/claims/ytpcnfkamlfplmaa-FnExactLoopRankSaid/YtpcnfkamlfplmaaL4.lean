/- Laws, from the contracts (printed by law.py). -/
import Derived.Test.YtpcnfkamlfplmaaN9
import Derived.Test.YtpcnfkamlfplmaaFz
namespace Go.Proofs.Ytpcnfkamlfplmaa.Gh
open Go Go.RowKit Go.Proofs
set_option linter.unusedVariables false
set_option linter.unusedSimpArgs false
set_option maxHeartbeats 4000000

theorem law_LoopRank {G : GH} {v0 : Value} {x0 : Net} (h0 : NetworkV G v0 x0) : GC Try.prog 7 [v0] G fun v _ => v = .bool true := by
  obtain ⟨A0, c0, rfl, h0, e0, l0, rn0, rs0, rt0⟩ := h0
  refine c_laws_FnExactLoopRank_i (by simp) ?_
  unfold netV netC
  simp (maxSteps := 300000) (disch := omega) only [gs, ↓reduceIte, Nat.reduceEqDiff, Nat.mul_one, Nat.add_zero, Nat.zero_add, Nat.zero_mul, Int.toNat_natCast, Int.reduceToNat, Nat.reduceMul, Nat.reduceAdd, decide_true, decide_false, Bool.not_true, Bool.not_false, true_and, and_true, List.map_cons, List.map_nil, List.nil_append, List.cons_append, List.append_nil, Option.map_some, Option.bind_some, List.getElem?_cons_zero, List.getElem?_cons_succ, Bool.false_eq_true, not_true_eq_false, not_false_eq_true, List.contains_cons, List.contains_nil, Nat.reduceBEq, Bool.true_or, Bool.false_or, Bool.or_true, List.set_cons_zero, List.set_cons_succ, List.length_cons, List.length_nil, isLd, Bool.true_and, Bool.false_and, Bool.and_true, Bool.and_false]
  intro p0 hp0
  generalize hG1 : put G p0 ⟨[.int .i64 x0.n, .int .i64 x0.s, .int .i64 x0.t, .slice A0 x0.arcs.length c0], true⟩ = G1
  have s1 : Sub G G1 := hG1 ▸ Sub.put hp0 _
  have h0 := h0.sub s1
  have fa0_0 : rd G1 (some ⟨p0, 0, none⟩) = some (.int .i64 x0.n) := by rw [← hG1]; exact rd_box _ _ _ 0 _ rfl
  have fa0_1 : rd G1 (some ⟨p0, 1, none⟩) = some (.int .i64 x0.s) := by rw [← hG1]; exact rd_box _ _ _ 1 _ rfl
  have fa0_2 : rd G1 (some ⟨p0, 2, none⟩) = some (.int .i64 x0.t) := by rw [← hG1]; exact rd_box _ _ _ 2 _ rfl
  have fa0_3 : rd G1 (some ⟨p0, 3, none⟩) = some (.slice A0 x0.arcs.length c0) := by rw [← hG1]; exact rd_box _ _ _ 3 _ rfl
  simp (maxSteps := 300000) (disch := omega) only [gs, ↓reduceIte, Nat.reduceEqDiff, Nat.mul_one, Nat.add_zero, Nat.zero_add, Nat.zero_mul, Int.toNat_natCast, Int.reduceToNat, Nat.reduceMul, Nat.reduceAdd, decide_true, decide_false, Bool.not_true, Bool.not_false, true_and, and_true, List.map_cons, List.map_nil, List.nil_append, List.cons_append, List.append_nil, Option.map_some, Option.bind_some, List.getElem?_cons_zero, List.getElem?_cons_succ, Bool.false_eq_true, not_true_eq_false, not_false_eq_true, List.contains_cons, List.contains_nil, Nat.reduceBEq, Bool.true_or, Bool.false_or, Bool.or_true, List.set_cons_zero, List.set_cons_succ, List.length_cons, List.length_nil, isLd, Bool.true_and, Bool.false_and, Bool.and_true, Bool.and_false, fa0_0, fa0_1, fa0_2, fa0_3]
  refine laws_szNetwork_ok (N := x0) ⟨by omega, by omega⟩ (by omega) fun q0 q0a q0b q0c => ?_
  simp (maxSteps := 300000) (disch := omega) only [gs, ↓reduceIte, Nat.reduceEqDiff, Nat.mul_one, Nat.add_zero, Nat.zero_add, Nat.zero_mul, Int.toNat_natCast, Int.reduceToNat, Nat.reduceMul, Nat.reduceAdd, decide_true, decide_false, Bool.not_true, Bool.not_false, true_and, and_true, List.map_cons, List.map_nil, List.nil_append, List.cons_append, List.append_nil, Option.map_some, Option.bind_some, List.getElem?_cons_zero, List.getElem?_cons_succ, Bool.false_eq_true, not_true_eq_false, not_false_eq_true, List.contains_cons, List.contains_nil, Nat.reduceBEq, Bool.true_or, Bool.false_or, Bool.or_true, List.set_cons_zero, List.set_cons_succ, List.length_cons, List.length_nil, isLd, Bool.true_and, Bool.false_and, Bool.and_true, Bool.and_false, fa0_0, fa0_1, fa0_2, fa0_3]
  by_cases g0 : q0 < 0
  · simp (maxSteps := 300000) (disch := omega) only [gs, ↓reduceIte, Nat.reduceEqDiff, Nat.mul_one, Nat.add_zero, Nat.zero_add, Nat.zero_mul, Int.toNat_natCast, Int.reduceToNat, Nat.reduceMul, Nat.reduceAdd, decide_true, decide_false, Bool.not_true, Bool.not_false, true_and, and_true, List.map_cons, List.map_nil, List.nil_append, List.cons_append, List.append_nil, Option.map_some, Option.bind_some, List.getElem?_cons_zero, List.getElem?_cons_succ, Bool.false_eq_true, not_true_eq_false, not_false_eq_true, List.contains_cons, List.contains_nil, Nat.reduceBEq, Bool.true_or, Bool.false_or, Bool.or_true, List.set_cons_zero, List.set_cons_succ, List.length_cons, List.length_nil, isLd, Bool.true_and, Bool.false_and, Bool.and_true, Bool.and_false, g0, fa0_0, fa0_1, fa0_2, fa0_3]
  simp (maxSteps := 300000) (disch := omega) only [gs, ↓reduceIte, Nat.reduceEqDiff, Nat.mul_one, Nat.add_zero, Nat.zero_add, Nat.zero_mul, Int.toNat_natCast, Int.reduceToNat, Nat.reduceMul, Nat.reduceAdd, decide_true, decide_false, Bool.not_true, Bool.not_false, true_and, and_true, List.map_cons, List.map_nil, List.nil_append, List.cons_append, List.append_nil, Option.map_some, Option.bind_some, List.getElem?_cons_zero, List.getElem?_cons_succ, Bool.false_eq_true, not_true_eq_false, not_false_eq_true, List.contains_cons, List.contains_nil, Nat.reduceBEq, Bool.true_or, Bool.false_or, Bool.or_true, List.set_cons_zero, List.set_cons_succ, List.length_cons, List.length_nil, isLd, Bool.true_and, Bool.false_and, Bool.and_true, Bool.and_false, g0, fa0_0, fa0_1, fa0_2, fa0_3]
  refine laws_toNetwork_ok' (N := x0) h0 (by omega) fun As0 G2 s2 hs0 => ?_
  have h0 := h0.sub s2
  have fa0_0 := rd_sub s2 fa0_0
  have fa0_1 := rd_sub s2 fa0_1
  have fa0_2 := rd_sub s2 fa0_2
  have fa0_3 := rd_sub s2 fa0_3
  simp (maxSteps := 300000) (disch := omega) only [gs, ↓reduceIte, Nat.reduceEqDiff, Nat.mul_one, Nat.add_zero, Nat.zero_add, Nat.zero_mul, Int.toNat_natCast, Int.reduceToNat, Nat.reduceMul, Nat.reduceAdd, decide_true, decide_false, Bool.not_true, Bool.not_false, true_and, and_true, List.map_cons, List.map_nil, List.nil_append, List.cons_append, List.append_nil, Option.map_some, Option.bind_some, List.getElem?_cons_zero, List.getElem?_cons_succ, Bool.false_eq_true, not_true_eq_false, not_false_eq_true, List.contains_cons, List.contains_nil, Nat.reduceBEq, Bool.true_or, Bool.false_or, Bool.or_true, List.set_cons_zero, List.set_cons_succ, List.length_cons, List.length_nil, isLd, Bool.true_and, Bool.false_and, Bool.and_true, Bool.and_false, fa0_0, fa0_1, fa0_2, fa0_3]
  refine spec_LoopRank_ok' hs0 rn0 (by omega) ?_
  simp (maxSteps := 300000) (disch := omega) only [gs, ↓reduceIte, Nat.reduceEqDiff, Nat.mul_one, Nat.add_zero, Nat.zero_add, Nat.zero_mul, Int.toNat_natCast, Int.reduceToNat, Nat.reduceMul, Nat.reduceAdd, decide_true, decide_false, Bool.not_true, Bool.not_false, true_and, and_true, List.map_cons, List.map_nil, List.nil_append, List.cons_append, List.append_nil, Option.map_some, Option.bind_some, List.getElem?_cons_zero, List.getElem?_cons_succ, Bool.false_eq_true, not_true_eq_false, not_false_eq_true, List.contains_cons, List.contains_nil, Nat.reduceBEq, Bool.true_or, Bool.false_or, Bool.or_true, List.set_cons_zero, List.set_cons_succ, List.length_cons, List.length_nil, isLd, Bool.true_and, Bool.false_and, Bool.and_true, Bool.and_false, pairV, fa0_0, fa0_1, fa0_2, fa0_3]
  refine laws_toNetwork_ok' (N := x0) h0 (by omega) fun Ai0 G3 s3 hi0 => ?_
  have h0 := h0.sub s3
  have hs0 := hs0.sub s3
  have fa0_0 := rd_sub s3 fa0_0
  have fa0_1 := rd_sub s3 fa0_1
  have fa0_2 := rd_sub s3 fa0_2
  have fa0_3 := rd_sub s3 fa0_3
  simp (maxSteps := 300000) (disch := omega) only [gs, ↓reduceIte, Nat.reduceEqDiff, Nat.mul_one, Nat.add_zero, Nat.zero_add, Nat.zero_mul, Int.toNat_natCast, Int.reduceToNat, Nat.reduceMul, Nat.reduceAdd, decide_true, decide_false, Bool.not_true, Bool.not_false, true_and, and_true, List.map_cons, List.map_nil, List.nil_append, List.cons_append, List.append_nil, Option.map_some, Option.bind_some, List.getElem?_cons_zero, List.getElem?_cons_succ, Bool.false_eq_true, not_true_eq_false, not_false_eq_true, List.contains_cons, List.contains_nil, Nat.reduceBEq, Bool.true_or, Bool.false_or, Bool.or_true, List.set_cons_zero, List.set_cons_succ, List.length_cons, List.length_nil, isLd, Bool.true_and, Bool.false_and, Bool.and_true, Bool.and_false, fa0_0, fa0_1, fa0_2, fa0_3]
  intro p1 hp1
  simp (maxSteps := 300000) (disch := omega) only [gs, ↓reduceIte, Nat.reduceEqDiff, Nat.mul_one, Nat.add_zero, Nat.zero_add, Nat.zero_mul, Int.toNat_natCast, Int.reduceToNat, Nat.reduceMul, Nat.reduceAdd, decide_true, decide_false, Bool.not_true, Bool.not_false, true_and, and_true, List.map_cons, List.map_nil, List.nil_append, List.cons_append, List.append_nil, Option.map_some, Option.bind_some, List.getElem?_cons_zero, List.getElem?_cons_succ, Bool.false_eq_true, not_true_eq_false, not_false_eq_true, List.contains_cons, List.contains_nil, Nat.reduceBEq, Bool.true_or, Bool.false_or, Bool.or_true, List.set_cons_zero, List.set_cons_succ, List.length_cons, List.length_nil, isLd, Bool.true_and, Bool.false_and, Bool.and_true, Bool.and_false, fa0_0, fa0_1, fa0_2, fa0_3]
  refine st_fresh (vs := [.int .i64 x0.n, .int .i64 x0.s, .int .i64 x0.t, .slice Ai0 x0.arcs.length x0.arcs.length]) rfl rfl rfl (by intro v hv; simp only [List.mem_cons, List.not_mem_nil, or_false] at hv; rcases hv with rfl | rfl | rfl | rfl <;> rfl) ?_
  generalize hG4 : put G3 p1 ⟨[.int .i64 x0.n, .int .i64 x0.s, .int .i64 x0.t, .slice Ai0 x0.arcs.length x0.arcs.length], true⟩ = G4
  have s4 : Sub G3 G4 := hG4 ▸ Sub.put hp1 _
  have h0 := h0.sub s4
  have hs0 := hs0.sub s4
  have hi0 := hi0.sub s4
  have fa0_0 := rd_sub s4 fa0_0
  have fa0_1 := rd_sub s4 fa0_1
  have fa0_2 := rd_sub s4 fa0_2
  have fa0_3 := rd_sub s4 fa0_3
  have fi0_0 : rd G4 (some ⟨p1, 0, none⟩) = some (.int .i64 x0.n) := by rw [← hG4]; exact rd_box _ _ _ 0 _ rfl
  have fi0_1 : rd G4 (some ⟨p1, 1, none⟩) = some (.int .i64 x0.s) := by rw [← hG4]; exact rd_box _ _ _ 1 _ rfl
  have fi0_2 : rd G4 (some ⟨p1, 2, none⟩) = some (.int .i64 x0.t) := by rw [← hG4]; exact rd_box _ _ _ 2 _ rfl
  have fi0_3 : rd G4 (some ⟨p1, 3, none⟩) = some (.slice Ai0 x0.arcs.length x0.arcs.length) := by rw [← hG4]; exact rd_box _ _ _ 3 _ rfl
  simp (maxSteps := 300000) (disch := omega) only [gs, ↓reduceIte, Nat.reduceEqDiff, Nat.mul_one, Nat.add_zero, Nat.zero_add, Nat.zero_mul, Int.toNat_natCast, Int.reduceToNat, Nat.reduceMul, Nat.reduceAdd, decide_true, decide_false, Bool.not_true, Bool.not_false, true_and, and_true, List.map_cons, List.map_nil, List.nil_append, List.cons_append, List.append_nil, Option.map_some, Option.bind_some, List.getElem?_cons_zero, List.getElem?_cons_succ, Bool.false_eq_true, not_true_eq_false, not_false_eq_true, List.contains_cons, List.contains_nil, Nat.reduceBEq, Bool.true_or, Bool.false_or, Bool.or_true, List.set_cons_zero, List.set_cons_succ, List.length_cons, List.length_nil, isLd, Bool.true_and, Bool.false_and, Bool.and_true, Bool.and_false, fa0_0, fa0_1, fa0_2, fa0_3, fi0_0, fi0_1, fi0_2, fi0_3]
  refine impl_LoopRank_ok hi0 rn0 (by omega) ?_
  simp (maxSteps := 300000) (disch := omega) only [gs, ↓reduceIte, Nat.reduceEqDiff, Nat.mul_one, Nat.add_zero, Nat.zero_add, Nat.zero_mul, Int.toNat_natCast, Int.reduceToNat, Nat.reduceMul, Nat.reduceAdd, decide_true, decide_false, Bool.not_true, Bool.not_false, true_and, and_true, List.map_cons, List.map_nil, List.nil_append, List.cons_append, List.append_nil, Option.map_some, Option.bind_some, List.getElem?_cons_zero, List.getElem?_cons_succ, Bool.false_eq_true, not_true_eq_false, not_false_eq_true, List.contains_cons, List.contains_nil, Nat.reduceBEq, Bool.true_or, Bool.false_or, Bool.or_true, List.set_cons_zero, List.set_cons_succ, List.length_cons, List.length_nil, isLd, Bool.true_and, Bool.false_and, Bool.and_true, Bool.and_false, pairV, eq_self, fa0_0, fa0_1, fa0_2, fa0_3, fi0_0, fi0_1, fi0_2, fi0_3]
  refine laws_toNetwork_ok' (N := x0) h0 (by omega) fun Ae0 G5 s5 he0 => ?_
  have h0 := h0.sub s5
  have hs0 := hs0.sub s5
  have hi0 := hi0.sub s5
  have fa0_0 := rd_sub s5 fa0_0
  have fa0_1 := rd_sub s5 fa0_1
  have fa0_2 := rd_sub s5 fa0_2
  have fa0_3 := rd_sub s5 fa0_3
  have fi0_0 := rd_sub s5 fi0_0
  have fi0_1 := rd_sub s5 fi0_1
  have fi0_2 := rd_sub s5 fi0_2
  have fi0_3 := rd_sub s5 fi0_3
  simp (maxSteps := 300000) (disch := omega) only [gs, ↓reduceIte, Nat.reduceEqDiff, Nat.mul_one, Nat.add_zero, Nat.zero_add, Nat.zero_mul, Int.toNat_natCast, Int.reduceToNat, Nat.reduceMul, Nat.reduceAdd, decide_true, decide_false, Bool.not_true, Bool.not_false, true_and, and_true, List.map_cons, List.map_nil, List.nil_append, List.cons_append, List.append_nil, Option.map_some, Option.bind_some, List.getElem?_cons_zero, List.getElem?_cons_succ, Bool.false_eq_true, not_true_eq_false, not_false_eq_true, List.contains_cons, List.contains_nil, Nat.reduceBEq, Bool.true_or, Bool.false_or, Bool.or_true, List.set_cons_zero, List.set_cons_succ, List.length_cons, List.length_nil, isLd, Bool.true_and, Bool.false_and, Bool.and_true, Bool.and_false, fa0_0, fa0_1, fa0_2, fa0_3, fi0_0, fi0_1, fi0_2, fi0_3]
  refine laws_eqNetwork_ok (N := x0) (M := x0) hi0 he0 (by omega) fun b hb => ?_
  obtain rfl : b = true := hb.2 rfl
  simp (maxSteps := 300000) (disch := omega) only [gs, ↓reduceIte, Nat.reduceEqDiff, Nat.mul_one, Nat.add_zero, Nat.zero_add, Nat.zero_mul, Int.toNat_natCast, Int.reduceToNat, Nat.reduceMul, Nat.reduceAdd, decide_true, decide_false, Bool.not_true, Bool.not_false, true_and, and_true, List.map_cons, List.map_nil, List.nil_append, List.cons_append, List.append_nil, Option.map_some, Option.bind_some, List.getElem?_cons_zero, List.getElem?_cons_succ, Bool.false_eq_true, not_true_eq_false, not_false_eq_true, List.contains_cons, List.contains_nil, Nat.reduceBEq, Bool.true_or, Bool.false_or, Bool.or_true, List.set_cons_zero, List.set_cons_succ, List.length_cons, List.length_nil, isLd, Bool.true_and, Bool.false_and, Bool.and_true, Bool.and_false, fa0_0, fa0_1, fa0_2, fa0_3, fi0_0, fi0_1, fi0_2, fi0_3]

end Go.Proofs.Ytpcnfkamlfplmaa.Gh
