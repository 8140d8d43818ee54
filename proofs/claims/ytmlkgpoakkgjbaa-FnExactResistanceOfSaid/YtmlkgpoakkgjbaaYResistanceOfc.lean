/- What the functions that the law ResistanceOf reaches return, and the law; it stands under no condition. -/
import Derived.Test.YtmlkgpoakkgjbaaYResistanceOfb
namespace Go.Proofs.Ytmlkgpoakkgjbaa.Gh
open Go Go.RowKit Go.Proofs
set_option linter.unusedVariables false
set_option linter.unusedSimpArgs false
set_option maxHeartbeats 4000000

theorem impl_laplacian_ok {G : GH} {N : Gra} {A : Option Addr} {c : Nat} (h : T3S G A c N.edges) (hn : GraOk N) {K : Value → GH → Prop}
    (hk : ∀ G' bO B, Mx G G' bO B N.n.toNat N.n.toNat (lapK N.edges N.edges.length) → K (.slice (some ⟨bO, 0, none⟩) N.n.toNat N.n.toNat) G') : GC Try.prog 148 [graV N A c] G K := by
  refine GC_drop (c_impl_laplacian_i (by simp) ?_)
  have hn1 := hn.1
  have hn4 := hn.2.2.2
  unfold graV graC
  simp (maxSteps := 300000) (disch := omega) only [gs, gs2, gs3, ↓reduceIte, Nat.reduceEqDiff, Nat.mul_one, Nat.add_zero, Nat.zero_add, Nat.zero_mul, Int.toNat_natCast, Int.reduceToNat, Nat.reduceMul, Nat.reduceAdd, decide_true, decide_false, Bool.not_true, Bool.not_false, true_and, and_true, List.map_cons, List.map_nil, List.nil_append, List.cons_append, List.append_nil, Option.map_some, Option.bind_some, List.getElem?_cons_zero, List.getElem?_cons_succ, Bool.false_eq_true, not_true_eq_false, not_false_eq_true, List.contains_cons, List.contains_nil, Nat.reduceBEq, Bool.true_or, Bool.false_or, Bool.or_true, List.set_cons_zero, List.set_cons_succ, List.length_cons, List.length_nil, isLd, Bool.true_and, Bool.false_and, Bool.and_true, Bool.and_false]
  intro b1 hb1
  have s1 := Sub.put hb1 ⟨[.int .i64 N.n, .slice A N.edges.length c], true⟩
  have f0 : rd (put G b1 ⟨[.int .i64 N.n, .slice A N.edges.length c], true⟩) (some ⟨b1, 0, none⟩) = some (.int .i64 N.n) := rd_box _ _ _ 0 _ rfl
  have f1 : rd (put G b1 ⟨[.int .i64 N.n, .slice A N.edges.length c], true⟩) (some ⟨b1, 1, none⟩) = some (.slice A N.edges.length c) := rd_box _ _ _ 1 _ rfl
  revert s1 f0 f1
  generalize put G b1 ⟨[.int .i64 N.n, .slice A N.edges.length c], true⟩ = G1
  intro s1 f0 f1
  simp (maxSteps := 300000) (disch := omega) only [gs, gs2, gs3, ↓reduceIte, Nat.reduceEqDiff, Nat.mul_one, Nat.add_zero, Nat.zero_add, Nat.zero_mul, Int.toNat_natCast, Int.reduceToNat, Nat.reduceMul, Nat.reduceAdd, decide_true, decide_false, Bool.not_true, Bool.not_false, true_and, and_true, List.map_cons, List.map_nil, List.nil_append, List.cons_append, List.append_nil, Option.map_some, Option.bind_some, List.getElem?_cons_zero, List.getElem?_cons_succ, Bool.false_eq_true, not_true_eq_false, not_false_eq_true, List.contains_cons, List.contains_nil, Nat.reduceBEq, Bool.true_or, Bool.false_or, Bool.or_true, List.set_cons_zero, List.set_cons_succ, List.length_cons, List.length_nil, isLd, Bool.true_and, Bool.false_and, Bool.and_true, Bool.and_false, f0, f1]
  refine ⟨N.n.toNat, N.n.toNat, by rw [Int.toNat_of_nonneg (by omega)], by rw [Int.toNat_of_nonneg (by omega)], Nat.le_refl _, by omega, by omega, fun bO hbO => ?_⟩
  rw [zc_one]
  have hM0 := Mx.new (n := N.n.toNat) hbO (fun _ _ => 0)
  revert hM0
  generalize put G1 bO ⟨List.replicate N.n.toNat (.slice none 0 0), true⟩ = G2
  intro hM0
  simp (maxSteps := 300000) (disch := omega) only [gs, gs2, gs3, ↓reduceIte, Nat.reduceEqDiff, Nat.mul_one, Nat.add_zero, Nat.zero_add, Nat.zero_mul, Int.toNat_natCast, Int.reduceToNat, Nat.reduceMul, Nat.reduceAdd, decide_true, decide_false, Bool.not_true, Bool.not_false, true_and, and_true, List.map_cons, List.map_nil, List.nil_append, List.cons_append, List.append_nil, Option.map_some, Option.bind_some, List.getElem?_cons_zero, List.getElem?_cons_succ, Bool.false_eq_true, not_true_eq_false, not_false_eq_true, List.contains_cons, List.contains_nil, Nat.reduceBEq, Bool.true_or, Bool.false_or, Bool.or_true, List.set_cons_zero, List.set_cons_succ, List.length_cons, List.length_nil, isLd, Bool.true_and, Bool.false_and, Bool.and_true, Bool.and_false]
  refine gLoop_intro (fun m T G' => ∃ (k : Nat) (B : Nat → Nat), T 1 = .pointer (some ⟨b1, 0, none⟩) ∧ T 3 = .slice (some ⟨bO, 0, none⟩) N.n.toNat N.n.toNat ∧ T 11 = .int .i64 N.n ∧ T 12 = .int .i64 k ∧ m + k = N.n.toNat ∧ k ≤ N.n.toNat ∧ Mx G1 G' bO B N.n.toNat k (fun _ _ => 0))
    N.n.toNat ⟨0, _, by simp (maxSteps := 300000) (disch := omega) only [gs, gs2, gs3, ↓reduceIte, Nat.reduceEqDiff, Nat.mul_one, Nat.add_zero, Nat.zero_add, Nat.zero_mul, Int.toNat_natCast, Int.reduceToNat, Nat.reduceMul, Nat.reduceAdd, decide_true, decide_false, Bool.not_true, Bool.not_false, true_and, and_true, List.map_cons, List.map_nil, List.nil_append, List.cons_append, List.append_nil, Option.map_some, Option.bind_some, List.getElem?_cons_zero, List.getElem?_cons_succ, Bool.false_eq_true, not_true_eq_false, not_false_eq_true, List.contains_cons, List.contains_nil, Nat.reduceBEq, Bool.true_or, Bool.false_or, Bool.or_true, List.set_cons_zero, List.set_cons_succ, List.length_cons, List.length_nil, isLd, Bool.true_and, Bool.false_and, Bool.and_true, Bool.and_false], by simp (maxSteps := 300000) (disch := omega) only [gs, gs2, gs3, ↓reduceIte, Nat.reduceEqDiff, Nat.mul_one, Nat.add_zero, Nat.zero_add, Nat.zero_mul, Int.toNat_natCast, Int.reduceToNat, Nat.reduceMul, Nat.reduceAdd, decide_true, decide_false, Bool.not_true, Bool.not_false, true_and, and_true, List.map_cons, List.map_nil, List.nil_append, List.cons_append, List.append_nil, Option.map_some, Option.bind_some, List.getElem?_cons_zero, List.getElem?_cons_succ, Bool.false_eq_true, not_true_eq_false, not_false_eq_true, List.contains_cons, List.contains_nil, Nat.reduceBEq, Bool.true_or, Bool.false_or, Bool.or_true, List.set_cons_zero, List.set_cons_succ, List.length_cons, List.length_nil, isLd, Bool.true_and, Bool.false_and, Bool.and_true, Bool.and_false], by simp (maxSteps := 300000) (disch := omega) only [gs, gs2, gs3, ↓reduceIte, Nat.reduceEqDiff, Nat.mul_one, Nat.add_zero, Nat.zero_add, Nat.zero_mul, Int.toNat_natCast, Int.reduceToNat, Nat.reduceMul, Nat.reduceAdd, decide_true, decide_false, Bool.not_true, Bool.not_false, true_and, and_true, List.map_cons, List.map_nil, List.nil_append, List.cons_append, List.append_nil, Option.map_some, Option.bind_some, List.getElem?_cons_zero, List.getElem?_cons_succ, Bool.false_eq_true, not_true_eq_false, not_false_eq_true, List.contains_cons, List.contains_nil, Nat.reduceBEq, Bool.true_or, Bool.false_or, Bool.or_true, List.set_cons_zero, List.set_cons_succ, List.length_cons, List.length_nil, isLd, Bool.true_and, Bool.false_and, Bool.and_true, Bool.and_false] <;> rw [Int.toNat_of_nonneg (by omega)], by simp (maxSteps := 300000) (disch := omega) only [gs, gs2, gs3, ↓reduceIte, Nat.reduceEqDiff, Nat.mul_one, Nat.add_zero, Nat.zero_add, Nat.zero_mul, Int.toNat_natCast, Int.reduceToNat, Nat.reduceMul, Nat.reduceAdd, decide_true, decide_false, Bool.not_true, Bool.not_false, true_and, and_true, List.map_cons, List.map_nil, List.nil_append, List.cons_append, List.append_nil, Option.map_some, Option.bind_some, List.getElem?_cons_zero, List.getElem?_cons_succ, Bool.false_eq_true, not_true_eq_false, not_false_eq_true, List.contains_cons, List.contains_nil, Nat.reduceBEq, Bool.true_or, Bool.false_or, Bool.or_true, List.set_cons_zero, List.set_cons_succ, List.length_cons, List.length_nil, isLd, Bool.true_and, Bool.false_and, Bool.and_true, Bool.and_false] <;> rfl, by omega, by omega, hM0⟩ ?_
  clear hM0
  rintro m T G' ⟨k, B, e1, e3, e11, e12, hm, hkm, hM⟩
  have g0 := rd_sub hM.sub f0
  have g1 := rd_sub hM.sub f1
  simp (maxSteps := 300000) (disch := omega) only [gs, gs2, gs3, ↓reduceIte, Nat.reduceEqDiff, Nat.mul_one, Nat.add_zero, Nat.zero_add, Nat.zero_mul, Int.toNat_natCast, Int.reduceToNat, Nat.reduceMul, Nat.reduceAdd, decide_true, decide_false, Bool.not_true, Bool.not_false, true_and, and_true, List.map_cons, List.map_nil, List.nil_append, List.cons_append, List.append_nil, Option.map_some, Option.bind_some, List.getElem?_cons_zero, List.getElem?_cons_succ, Bool.false_eq_true, not_true_eq_false, not_false_eq_true, List.contains_cons, List.contains_nil, Nat.reduceBEq, Bool.true_or, Bool.false_or, Bool.or_true, List.set_cons_zero, List.set_cons_succ, List.length_cons, List.length_nil, isLd, Bool.true_and, Bool.false_and, Bool.and_true, Bool.and_false, e1, e3, e11, e12]
  by_cases hkk : (k : Int) < N.n
  · simp (maxSteps := 300000) (disch := omega) only [gs, gs2, gs3, ↓reduceIte, Nat.reduceEqDiff, Nat.mul_one, Nat.add_zero, Nat.zero_add, Nat.zero_mul, Int.toNat_natCast, Int.reduceToNat, Nat.reduceMul, Nat.reduceAdd, decide_true, decide_false, Bool.not_true, Bool.not_false, true_and, and_true, List.map_cons, List.map_nil, List.nil_append, List.cons_append, List.append_nil, Option.map_some, Option.bind_some, List.getElem?_cons_zero, List.getElem?_cons_succ, Bool.false_eq_true, not_true_eq_false, not_false_eq_true, List.contains_cons, List.contains_nil, Nat.reduceBEq, Bool.true_or, Bool.false_or, Bool.or_true, List.set_cons_zero, List.set_cons_succ, List.length_cons, List.length_nil, isLd, Bool.true_and, Bool.false_and, Bool.and_true, Bool.and_false, e1, e3, e11, e12, hkk, g0]
    refine ⟨N.n.toNat, N.n.toNat, by rw [Int.toNat_of_nonneg (by omega)], by rw [Int.toNat_of_nonneg (by omega)], Nat.le_refl _, by omega, by omega, fun b hb => ?_⟩
    have hz : zc [.int .i64 0] N.n.toNat = fcells N.n.toNat (fun _ => 0) := by rw [zc_one, rep_range]; rfl
    rw [hz]
    simp (maxSteps := 300000) (disch := omega) only [gs, gs2, gs3, ↓reduceIte, Nat.reduceEqDiff, Nat.mul_one, Nat.add_zero, Nat.zero_add, Nat.zero_mul, Int.toNat_natCast, Int.reduceToNat, Nat.reduceMul, Nat.reduceAdd, decide_true, decide_false, Bool.not_true, Bool.not_false, true_and, and_true, List.map_cons, List.map_nil, List.nil_append, List.cons_append, List.append_nil, Option.map_some, Option.bind_some, List.getElem?_cons_zero, List.getElem?_cons_succ, Bool.false_eq_true, not_true_eq_false, not_false_eq_true, List.contains_cons, List.contains_nil, Nat.reduceBEq, Bool.true_or, Bool.false_or, Bool.or_true, List.set_cons_zero, List.set_cons_succ, List.length_cons, List.length_nil, isLd, Bool.true_and, Bool.false_and, Bool.and_true, Bool.and_false, e1, e3, e11, e12]
    have hO : bO ≠ b := blk_ne hM.o hb
    refine st_one (cs := mxO B N.n.toNat k) (by rw [put_ne _ _ hO]; exact hM.o) (by rw [mxO_len]; omega) rfl ?_
    have hM2 := hM.add (by omega) hb
    simp (maxSteps := 300000) (disch := omega) only [gs, gs2, gs3, ↓reduceIte, Nat.reduceEqDiff, Nat.mul_one, Nat.add_zero, Nat.zero_add, Nat.zero_mul, Int.toNat_natCast, Int.reduceToNat, Nat.reduceMul, Nat.reduceAdd, decide_true, decide_false, Bool.not_true, Bool.not_false, true_and, and_true, List.map_cons, List.map_nil, List.nil_append, List.cons_append, List.append_nil, Option.map_some, Option.bind_some, List.getElem?_cons_zero, List.getElem?_cons_succ, Bool.false_eq_true, not_true_eq_false, not_false_eq_true, List.contains_cons, List.contains_nil, Nat.reduceBEq, Bool.true_or, Bool.false_or, Bool.or_true, List.set_cons_zero, List.set_cons_succ, List.length_cons, List.length_nil, isLd, Bool.true_and, Bool.false_and, Bool.and_true, Bool.and_false, e1, e3, e11, e12]
    exact ⟨m - 1, by omega, _, Sub.refl _, k + 1, _, rfl, by omega, by omega, hM2⟩
  · simp (maxSteps := 300000) (disch := omega) only [gs, gs2, gs3, ↓reduceIte, Nat.reduceEqDiff, Nat.mul_one, Nat.add_zero, Nat.zero_add, Nat.zero_mul, Int.toNat_natCast, Int.reduceToNat, Nat.reduceMul, Nat.reduceAdd, decide_true, decide_false, Bool.not_true, Bool.not_false, true_and, and_true, List.map_cons, List.map_nil, List.nil_append, List.cons_append, List.append_nil, Option.map_some, Option.bind_some, List.getElem?_cons_zero, List.getElem?_cons_succ, Bool.false_eq_true, not_true_eq_false, not_false_eq_true, List.contains_cons, List.contains_nil, Nat.reduceBEq, Bool.true_or, Bool.false_or, Bool.or_true, List.set_cons_zero, List.set_cons_succ, List.length_cons, List.length_nil, isLd, Bool.true_and, Bool.false_and, Bool.and_true, Bool.and_false, e1, e3, e11, e12, hkk, g1]
    obtain rfl : k = N.n.toNat := by omega
    refine gLoop_intro (fun m T G' => ∃ (k : Nat), T 3 = .slice (some ⟨bO, 0, none⟩) N.n.toNat N.n.toNat ∧ T 23 = .slice A N.edges.length c ∧ T 24 = .int .i64 N.edges.length ∧ T 25 = .int .i64 k ∧ m + k = N.edges.length ∧ k ≤ N.edges.length ∧ Mx G1 G' bO B N.n.toNat N.n.toNat (lapK N.edges k))
      N.edges.length ⟨0, by simp (maxSteps := 300000) (disch := omega) only [gs, gs2, gs3, ↓reduceIte, Nat.reduceEqDiff, Nat.mul_one, Nat.add_zero, Nat.zero_add, Nat.zero_mul, Int.toNat_natCast, Int.reduceToNat, Nat.reduceMul, Nat.reduceAdd, decide_true, decide_false, Bool.not_true, Bool.not_false, true_and, and_true, List.map_cons, List.map_nil, List.nil_append, List.cons_append, List.append_nil, Option.map_some, Option.bind_some, List.getElem?_cons_zero, List.getElem?_cons_succ, Bool.false_eq_true, not_true_eq_false, not_false_eq_true, List.contains_cons, List.contains_nil, Nat.reduceBEq, Bool.true_or, Bool.false_or, Bool.or_true, List.set_cons_zero, List.set_cons_succ, List.length_cons, List.length_nil, isLd, Bool.true_and, Bool.false_and, Bool.and_true, Bool.and_false, e3], by simp (maxSteps := 300000) (disch := omega) only [gs, gs2, gs3, ↓reduceIte, Nat.reduceEqDiff, Nat.mul_one, Nat.add_zero, Nat.zero_add, Nat.zero_mul, Int.toNat_natCast, Int.reduceToNat, Nat.reduceMul, Nat.reduceAdd, decide_true, decide_false, Bool.not_true, Bool.not_false, true_and, and_true, List.map_cons, List.map_nil, List.nil_append, List.cons_append, List.append_nil, Option.map_some, Option.bind_some, List.getElem?_cons_zero, List.getElem?_cons_succ, Bool.false_eq_true, not_true_eq_false, not_false_eq_true, List.contains_cons, List.contains_nil, Nat.reduceBEq, Bool.true_or, Bool.false_or, Bool.or_true, List.set_cons_zero, List.set_cons_succ, List.length_cons, List.length_nil, isLd, Bool.true_and, Bool.false_and, Bool.and_true, Bool.and_false], by simp (maxSteps := 300000) (disch := omega) only [gs, gs2, gs3, ↓reduceIte, Nat.reduceEqDiff, Nat.mul_one, Nat.add_zero, Nat.zero_add, Nat.zero_mul, Int.toNat_natCast, Int.reduceToNat, Nat.reduceMul, Nat.reduceAdd, decide_true, decide_false, Bool.not_true, Bool.not_false, true_and, and_true, List.map_cons, List.map_nil, List.nil_append, List.cons_append, List.append_nil, Option.map_some, Option.bind_some, List.getElem?_cons_zero, List.getElem?_cons_succ, Bool.false_eq_true, not_true_eq_false, not_false_eq_true, List.contains_cons, List.contains_nil, Nat.reduceBEq, Bool.true_or, Bool.false_or, Bool.or_true, List.set_cons_zero, List.set_cons_succ, List.length_cons, List.length_nil, isLd, Bool.true_and, Bool.false_and, Bool.and_true, Bool.and_false], by simp (maxSteps := 300000) (disch := omega) only [gs, gs2, gs3, ↓reduceIte, Nat.reduceEqDiff, Nat.mul_one, Nat.add_zero, Nat.zero_add, Nat.zero_mul, Int.toNat_natCast, Int.reduceToNat, Nat.reduceMul, Nat.reduceAdd, decide_true, decide_false, Bool.not_true, Bool.not_false, true_and, and_true, List.map_cons, List.map_nil, List.nil_append, List.cons_append, List.append_nil, Option.map_some, Option.bind_some, List.getElem?_cons_zero, List.getElem?_cons_succ, Bool.false_eq_true, not_true_eq_false, not_false_eq_true, List.contains_cons, List.contains_nil, Nat.reduceBEq, Bool.true_or, Bool.false_or, Bool.or_true, List.set_cons_zero, List.set_cons_succ, List.length_cons, List.length_nil, isLd, Bool.true_and, Bool.false_and, Bool.and_true, Bool.and_false] <;> rfl, by omega, by omega, hM⟩ ?_
    clear e1 e3 e11 e12 hkk hm hM g0 g1
    rintro m T G' ⟨k, e3, e23, e24, e25, hm, hkm, hM⟩
    have hh := (h.sub s1).sub hM.sub
    have hsn := hh.sn
    have p0 := hh.r0
    have p1 := hh.r1
    have p2 := hh.r2
    simp (maxSteps := 300000) (disch := omega) only [gs, gs2, gs3, ↓reduceIte, Nat.reduceEqDiff, Nat.mul_one, Nat.add_zero, Nat.zero_add, Nat.zero_mul, Int.toNat_natCast, Int.reduceToNat, Nat.reduceMul, Nat.reduceAdd, decide_true, decide_false, Bool.not_true, Bool.not_false, true_and, and_true, List.map_cons, List.map_nil, List.nil_append, List.cons_append, List.append_nil, Option.map_some, Option.bind_some, List.getElem?_cons_zero, List.getElem?_cons_succ, Bool.false_eq_true, not_true_eq_false, not_false_eq_true, List.contains_cons, List.contains_nil, Nat.reduceBEq, Bool.true_or, Bool.false_or, Bool.or_true, List.set_cons_zero, List.set_cons_succ, List.length_cons, List.length_nil, isLd, Bool.true_and, Bool.false_and, Bool.and_true, Bool.and_false, e3, e23, e24, e25]
    by_cases hkk : (k : Int) < N.edges.length
    · simp (maxSteps := 300000) (disch := omega) only [gs, gs2, gs3, ↓reduceIte, Nat.reduceEqDiff, Nat.mul_one, Nat.add_zero, Nat.zero_add, Nat.zero_mul, Int.toNat_natCast, Int.reduceToNat, Nat.reduceMul, Nat.reduceAdd, decide_true, decide_false, Bool.not_true, Bool.not_false, true_and, and_true, List.map_cons, List.map_nil, List.nil_append, List.cons_append, List.append_nil, Option.map_some, Option.bind_some, List.getElem?_cons_zero, List.getElem?_cons_succ, Bool.false_eq_true, not_true_eq_false, not_false_eq_true, List.contains_cons, List.contains_nil, Nat.reduceBEq, Bool.true_or, Bool.false_or, Bool.or_true, List.set_cons_zero, List.set_cons_succ, List.length_cons, List.length_nil, isLd, Bool.true_and, Bool.false_and, Bool.and_true, Bool.and_false, e3, e23, e24, e25, hkk, p0, p1, p2]
      intro b6 hb6
      simp (maxSteps := 300000) (disch := omega) only [gs, gs2, gs3, ↓reduceIte, Nat.reduceEqDiff, Nat.mul_one, Nat.add_zero, Nat.zero_add, Nat.zero_mul, Int.toNat_natCast, Int.reduceToNat, Nat.reduceMul, Nat.reduceAdd, decide_true, decide_false, Bool.not_true, Bool.not_false, true_and, and_true, List.map_cons, List.map_nil, List.nil_append, List.cons_append, List.append_nil, Option.map_some, Option.bind_some, List.getElem?_cons_zero, List.getElem?_cons_succ, Bool.false_eq_true, not_true_eq_false, not_false_eq_true, List.contains_cons, List.contains_nil, Nat.reduceBEq, Bool.true_or, Bool.false_or, Bool.or_true, List.set_cons_zero, List.set_cons_succ, List.length_cons, List.length_nil, isLd, Bool.true_and, Bool.false_and, Bool.and_true, Bool.and_false, e3, e23, e24, e25]
      refine st_fresh (vs := c3 (N.edges.getD k z3)) rfl rfl rfl (c3_one _) ?_
      have hM1 := hM.box hb6 ⟨c3 (N.edges.getD k z3), true⟩
      have hsub : Sub G1 (put G1 b6 ⟨c3 (N.edges.getD k z3), true⟩) := Sub.put (hM.sub.none hb6) _
      have q0 : rd (put G1 b6 ⟨c3 (N.edges.getD k z3), true⟩) (some ⟨b6, 0, none⟩) = some (.int .i64 (N.edges.getD k z3).1) := rd_box _ _ _ 0 _ rfl
      have q1 : rd (put G1 b6 ⟨c3 (N.edges.getD k z3), true⟩) (some ⟨b6, 1, none⟩) = some (.int .i64 (N.edges.getD k z3).2.1) := rd_box _ _ _ 1 _ rfl
      have q2 : rd (put G1 b6 ⟨c3 (N.edges.getD k z3), true⟩) (some ⟨b6, 2, none⟩) = some (.int .i64 (N.edges.getD k z3).2.2) := rd_box _ _ _ 2 _ rfl
      obtain ⟨o1, o2, o3, o4⟩ := hn.2.1 k (by omega)
      have hl : ∀ i j, -216 ≤ lapK N.edges k i j ∧ lapK N.edges k i j ≤ 216 := fun i j => by
        have := lapK_bd hn.okE (fun i hi => by have := hn.2.1 i hi; unfold okEdge at this; omega) i j k hkm
        omega
      have hlap : lapK N.edges (k + 1) = upd2 (upd2 (upd2 (upd2 (lapK N.edges k) (N.edges.getD k z3).1 (N.edges.getD k z3).1 (lapK N.edges k (N.edges.getD k z3).1 (N.edges.getD k z3).1 + (N.edges.getD k z3).2.2)) (N.edges.getD k z3).2.1 (N.edges.getD k z3).2.1 (upd2 (lapK N.edges k) (N.edges.getD k z3).1 (N.edges.getD k z3).1 (lapK N.edges k (N.edges.getD k z3).1 (N.edges.getD k z3).1 + (N.edges.getD k z3).2.2) (N.edges.getD k z3).2.1 (N.edges.getD k z3).2.1 + (N.edges.getD k z3).2.2)) (N.edges.getD k z3).1 (N.edges.getD k z3).2.1 (-(N.edges.getD k z3).2.2)) (N.edges.getD k z3).2.1 (N.edges.getD k z3).1 (-(N.edges.getD k z3).2.2) := rfl
      clear hM p0 p1 p2 hh hsn
      revert hM1 hsub q0 q1 q2
      generalize put G' b6 ⟨c3 (N.edges.getD k z3), true⟩ = H
      generalize put G1 b6 ⟨c3 (N.edges.getD k z3), true⟩ = H0
      intro hM1 hsub q0 q1 q2
      generalize (N.edges.getD k z3).1 = u at *
      generalize (N.edges.getD k z3).2.1 = w at *
      generalize (N.edges.getD k z3).2.2 = z at *
      generalize lapK N.edges k = L at *
      have r0 := rd_sub hM1.sub q0
      have r1 := rd_sub hM1.sub q1
      have r2 := rd_sub hM1.sub q2
      have ru := hM1.row (i := u.toNat) (by omega) (by omega)
      have hg := hM1.get (u := u) (v := u) (by omega) (by omega) (by omega) (by omega)
      have hl1 := hl u u
      have hl2 := hl w w
      simp (maxSteps := 300000) (disch := omega) only [gs, gs2, gs3, ↓reduceIte, Nat.reduceEqDiff, Nat.mul_one, Nat.add_zero, Nat.zero_add, Nat.zero_mul, Int.toNat_natCast, Int.reduceToNat, Nat.reduceMul, Nat.reduceAdd, decide_true, decide_false, Bool.not_true, Bool.not_false, true_and, and_true, List.map_cons, List.map_nil, List.nil_append, List.cons_append, List.append_nil, Option.map_some, Option.bind_some, List.getElem?_cons_zero, List.getElem?_cons_succ, Bool.false_eq_true, not_true_eq_false, not_false_eq_true, List.contains_cons, List.contains_nil, Nat.reduceBEq, Bool.true_or, Bool.false_or, Bool.or_true, List.set_cons_zero, List.set_cons_succ, List.length_cons, List.length_nil, isLd, Bool.true_and, Bool.false_and, Bool.and_true, Bool.and_false, e3, e23, e24, e25, r0, r1, r2, ru, hg]
      refine hM1.store (u := u) (v := u) (by omega) (by omega) (by omega) (by omega) fun H2 hM2 => ?_
      have r0 := rd_sub hM2.sub q0
      have r1 := rd_sub hM2.sub q1
      have r2 := rd_sub hM2.sub q2
      have rw2 := hM2.row (i := w.toNat) (by omega) (by omega)
      have hg := hM2.get (u := w) (v := w) (by omega) (by omega) (by omega) (by omega)
      have e5 : upd2 L u u (L u u + z) w w = L w w := if_neg (by omega)
      rw [e5] at hg hlap
      simp (maxSteps := 300000) (disch := omega) only [gs, gs2, gs3, ↓reduceIte, Nat.reduceEqDiff, Nat.mul_one, Nat.add_zero, Nat.zero_add, Nat.zero_mul, Int.toNat_natCast, Int.reduceToNat, Nat.reduceMul, Nat.reduceAdd, decide_true, decide_false, Bool.not_true, Bool.not_false, true_and, and_true, List.map_cons, List.map_nil, List.nil_append, List.cons_append, List.append_nil, Option.map_some, Option.bind_some, List.getElem?_cons_zero, List.getElem?_cons_succ, Bool.false_eq_true, not_true_eq_false, not_false_eq_true, List.contains_cons, List.contains_nil, Nat.reduceBEq, Bool.true_or, Bool.false_or, Bool.or_true, List.set_cons_zero, List.set_cons_succ, List.length_cons, List.length_nil, isLd, Bool.true_and, Bool.false_and, Bool.and_true, Bool.and_false, e3, e23, e24, e25, r0, r1, r2, rw2, hg]
      refine hM2.store (u := w) (v := w) (by omega) (by omega) (by omega) (by omega) fun H3 hM3 => ?_
      have r0 := rd_sub hM3.sub q0
      have r1 := rd_sub hM3.sub q1
      have r2 := rd_sub hM3.sub q2
      have ru := hM3.row (i := u.toNat) (by omega) (by omega)
      simp (maxSteps := 300000) (disch := omega) only [gs, gs2, gs3, ↓reduceIte, Nat.reduceEqDiff, Nat.mul_one, Nat.add_zero, Nat.zero_add, Nat.zero_mul, Int.toNat_natCast, Int.reduceToNat, Nat.reduceMul, Nat.reduceAdd, decide_true, decide_false, Bool.not_true, Bool.not_false, true_and, and_true, List.map_cons, List.map_nil, List.nil_append, List.cons_append, List.append_nil, Option.map_some, Option.bind_some, List.getElem?_cons_zero, List.getElem?_cons_succ, Bool.false_eq_true, not_true_eq_false, not_false_eq_true, List.contains_cons, List.contains_nil, Nat.reduceBEq, Bool.true_or, Bool.false_or, Bool.or_true, List.set_cons_zero, List.set_cons_succ, List.length_cons, List.length_nil, isLd, Bool.true_and, Bool.false_and, Bool.and_true, Bool.and_false, e3, e23, e24, e25, r0, r1, r2, ru]
      refine hM3.store (u := u) (v := w) (by omega) (by omega) (by omega) (by omega) fun H4 hM4 => ?_
      have r0 := rd_sub hM4.sub q0
      have r1 := rd_sub hM4.sub q1
      have r2 := rd_sub hM4.sub q2
      have rw4 := hM4.row (i := w.toNat) (by omega) (by omega)
      simp (maxSteps := 300000) (disch := omega) only [gs, gs2, gs3, ↓reduceIte, Nat.reduceEqDiff, Nat.mul_one, Nat.add_zero, Nat.zero_add, Nat.zero_mul, Int.toNat_natCast, Int.reduceToNat, Nat.reduceMul, Nat.reduceAdd, decide_true, decide_false, Bool.not_true, Bool.not_false, true_and, and_true, List.map_cons, List.map_nil, List.nil_append, List.cons_append, List.append_nil, Option.map_some, Option.bind_some, List.getElem?_cons_zero, List.getElem?_cons_succ, Bool.false_eq_true, not_true_eq_false, not_false_eq_true, List.contains_cons, List.contains_nil, Nat.reduceBEq, Bool.true_or, Bool.false_or, Bool.or_true, List.set_cons_zero, List.set_cons_succ, List.length_cons, List.length_nil, isLd, Bool.true_and, Bool.false_and, Bool.and_true, Bool.and_false, e3, e23, e24, e25, r0, r1, r2, rw4]
      refine hM4.store (u := w) (v := u) (by omega) (by omega) (by omega) (by omega) fun H5 hM5 => ?_
      simp (maxSteps := 300000) (disch := omega) only [gs, gs2, gs3, ↓reduceIte, Nat.reduceEqDiff, Nat.mul_one, Nat.add_zero, Nat.zero_add, Nat.zero_mul, Int.toNat_natCast, Int.reduceToNat, Nat.reduceMul, Nat.reduceAdd, decide_true, decide_false, Bool.not_true, Bool.not_false, true_and, and_true, List.map_cons, List.map_nil, List.nil_append, List.cons_append, List.append_nil, Option.map_some, Option.bind_some, List.getElem?_cons_zero, List.getElem?_cons_succ, Bool.false_eq_true, not_true_eq_false, not_false_eq_true, List.contains_cons, List.contains_nil, Nat.reduceBEq, Bool.true_or, Bool.false_or, Bool.or_true, List.set_cons_zero, List.set_cons_succ, List.length_cons, List.length_nil, isLd, Bool.true_and, Bool.false_and, Bool.and_true, Bool.and_false, e3, e23, e24, e25]
      rw [Int.zero_sub, ← hlap] at hM5
      exact ⟨m - 1, by omega, _, Sub.refl _, k + 1, rfl, by omega, by omega, hM5.low hsub⟩
    · simp (maxSteps := 300000) (disch := omega) only [gs, gs2, gs3, ↓reduceIte, Nat.reduceEqDiff, Nat.mul_one, Nat.add_zero, Nat.zero_add, Nat.zero_mul, Int.toNat_natCast, Int.reduceToNat, Nat.reduceMul, Nat.reduceAdd, decide_true, decide_false, Bool.not_true, Bool.not_false, true_and, and_true, List.map_cons, List.map_nil, List.nil_append, List.cons_append, List.append_nil, Option.map_some, Option.bind_some, List.getElem?_cons_zero, List.getElem?_cons_succ, Bool.false_eq_true, not_true_eq_false, not_false_eq_true, List.contains_cons, List.contains_nil, Nat.reduceBEq, Bool.true_or, Bool.false_or, Bool.or_true, List.set_cons_zero, List.set_cons_succ, List.length_cons, List.length_nil, isLd, Bool.true_and, Bool.false_and, Bool.and_true, Bool.and_false, e3, e23, e24, e25, hkk]
      obtain rfl : k = N.edges.length := by omega
      exact ⟨_, Sub.refl _, hk _ _ _ (hM.low s1)⟩
/-- the first row from t on that has something in a column. -/
def fstRow (f : Int → Int → Int) (c : Int) (t R : Nat) : Option Nat := (List.range' t (R - t)).find? fun i => f i c != 0
theorem fstRow_some {f : Int → Int → Int} {c : Int} {t R i : Nat} (h0 : t ≤ i) (h1 : i < R) (h2 : f i c ≠ 0) (h3 : ∀ j, t ≤ j → j < i → f j c = 0) : fstRow f c t R = some i := by
  unfold fstRow
  rw [show R - t = (i - t) + ((R - i - 1) + 1) by omega, ← List.range'_append_1, List.find?_append, List.find?_eq_none.2]
  · rw [Option.none_or, show t + (i - t) = i by omega, List.range'_succ, List.find?_cons_of_pos (by simpa using h2)]
  · intro j hj
    rw [List.mem_range'_1] at hj
    simp [h3 j hj.1 (by omega)]
theorem fstRow_none {f : Int → Int → Int} {c : Int} {t R : Nat} (h : ∀ j : Nat, t ≤ j → j < R → f j c = 0) : fstRow f c t R = none := by
  unfold fstRow
  rw [List.find?_eq_none]
  intro j hj
  rw [List.mem_range'_1] at hj
  simp [h j hj.1 (by omega)]
theorem fstRow_spec {f : Int → Int → Int} {c : Int} {t R i : Nat} (h : fstRow f c t R = some i) : t ≤ i ∧ i < R ∧ f i c ≠ 0 := by
  unfold fstRow at h
  have h1 := List.mem_of_find?_eq_some h
  have h2 := List.find?_some h
  rw [List.mem_range'_1] at h1
  exact ⟨h1.1, by omega, by simpa using h2⟩
def swp (f : Int → Int → Int) (a b : Int) : Int → Int → Int := fun i => if i = a then f b else if i = b then f a else f i
def scl (f : Int → Int → Int) (t k p : Int) : Int → Int → Int := fun i j => if i = t then (f t j * k) % p else f i j
def clr (f : Int → Int → Int) (t c p : Int) : Int → Int → Int := fun i j => if i = t then f i j else (f i j + (p - f i c) * f t j) % p
/-- a power modulo p. -/
def pw (a : Int) (p : Int) : Nat → Int
  | 0 => 1
  | n + 1 => pw a p n * a % p
def invF (a p : Int) : Int := pw a p (p - 2).toNat
structure ElS where
  f : Int → Int → Int
  piv : List Int
  det : Int
noncomputable def elS (p : Int) (R : Nat) (s : ElS) (c : Nat) : ElS :=
  match fstRow s.f c s.piv.length R with
  | none => ⟨s.f, s.piv, 0⟩
  | some i =>
    let g := swp s.f s.piv.length i
    let h := scl g s.piv.length (invF (g s.piv.length c) p) p
    ⟨clr h s.piv.length c p, s.piv ++ [(c : Int)], (if i = s.piv.length then s.det else (-s.det) % p) * g s.piv.length c % p⟩
noncomputable def elF (p : Int) (R : Nat) (f : Int → Int → Int) : Nat → ElS
  | 0 => ⟨f, [], 1⟩
  | c + 1 => elS p R (elF p R f c) c
/-- all cells are numbers modulo p. -/
def Rng (f : Int → Int → Int) (p : Int) : Prop := ∀ i j, 0 ≤ f i j ∧ f i j < p
theorem Rng.swp {f : Int → Int → Int} {p : Int} (h : Rng f p) (a b : Int) : Rng (Gh.swp f a b) p := fun i j => by
  unfold Gh.swp; split
  · exact h b j
  · split
    · exact h a j
    · exact h i j
theorem Rng.scl {f : Int → Int → Int} {p : Int} (h : Rng f p) (hp : 0 < p) (t k : Int) : Rng (Gh.scl f t k p) p := fun i j => by
  unfold Gh.scl; split
  · exact ⟨Int.emod_nonneg _ (by omega), Int.emod_lt_of_pos _ hp⟩
  · exact h i j
theorem Rng.clr {f : Int → Int → Int} {p : Int} (h : Rng f p) (hp : 0 < p) (t c : Int) : Rng (Gh.clr f t c p) p := fun i j => by
  unfold Gh.clr; split
  · exact h i j
  · exact ⟨Int.emod_nonneg _ (by omega), Int.emod_lt_of_pos _ hp⟩
theorem elS_rng {p : Int} {R : Nat} (hp : 0 < p) {s : ElS} (h : Rng s.f p) (c : Nat) : Rng (elS p R s c).f p := by
  unfold elS; split
  · exact h
  · exact ((h.swp _ _).scl hp _ _).clr hp _ _
theorem elF_rng {p : Int} {R : Nat} (hp : 0 < p) {f : Int → Int → Int} (h : Rng f p) : ∀ c, Rng (elF p R f c).f p
  | 0 => h
  | c + 1 => elS_rng hp (elF_rng hp h c) c
theorem elS_len {p : Int} {R : Nat} {s : ElS} (h : s.piv.length ≤ R) (c : Nat) : (elS p R s c).piv.length ≤ R ∧ s.piv.length ≤ (elS p R s c).piv.length ∧ (elS p R s c).piv.length ≤ s.piv.length + 1 := by
  unfold elS; split
  · exact ⟨h, Nat.le_refl _, Nat.le_succ _⟩
  · rename_i i hi
    have := fstRow_spec hi
    simp; omega
theorem elF_len (p : Int) (R : Nat) (f : Int → Int → Int) : ∀ c, (elF p R f c).piv.length ≤ R ∧ (elF p R f c).piv.length ≤ c
  | 0 => ⟨by simp [elF], by simp [elF]⟩
  | c + 1 => by
    have ih := elF_len p R f c
    have := elS_len (p := p) ih.1 c
    exact ⟨this.1, by have := this.2.2; show (elS p R (elF p R f c) c).piv.length ≤ _; omega⟩
theorem elF_det {p : Int} (hp : 1 < p) (R : Nat) (f : Int → Int → Int) : ∀ c, 0 ≤ (elF p R f c).det ∧ (elF p R f c).det < p
  | 0 => by simp [elF]; omega
  | c + 1 => by
    show 0 ≤ (elS p R (elF p R f c) c).det ∧ (elS p R (elF p R f c) c).det < p
    unfold elS; split
    · exact ⟨Int.le_refl _, show (0 : Int) < p by omega⟩
    · exact ⟨Int.emod_nonneg _ (by omega), Int.emod_lt_of_pos _ (by omega)⟩
theorem pw_rng {a p : Int} (hp : 1 < p) : ∀ n, 0 ≤ pw a p n ∧ pw a p n < p
  | 0 => by show (0 : Int) ≤ 1 ∧ (1 : Int) < p; omega
  | n + 1 => ⟨Int.emod_nonneg (pw a p n * a) (by omega), Int.emod_lt_of_pos (pw a p n * a) (by omega)⟩
theorem pw_sq {a p : Int} : ∀ n, pw (a * a % p) p n % p = pw a p (2 * n) % p
  | 0 => rfl
  | n + 1 => by
    show pw (a * a % p) p n * (a * a % p) % p % p = pw a p (2 * n + 1) * a % p % p
    have e : pw a p (2 * n + 1) = pw a p (2 * n) * a % p := rfl
    rw [e, Int.emod_emod_of_dvd _ (Int.dvd_refl p), Int.emod_emod_of_dvd _ (Int.dvd_refl p), Int.mul_emod (pw (a * a % p) p n), pw_sq n, Int.mul_emod (pw a p (2 * n) * a % p), Int.emod_emod_of_dvd _ (Int.dvd_refl p), Int.emod_emod_of_dvd _ (Int.dvd_refl p), ← Int.mul_emod, ← Int.mul_emod, Int.mul_assoc]
/-- every number but 0 has the inverse that is used. -/
def HasInv (p : Int) : Prop := ∀ a : Int, 0 < a → a < p → a * invF a p % p = 1
theorem mul_mod_r (a b p : Int) : a * (b % p) % p = a * b % p := by rw [Int.mul_emod, Int.emod_emod_of_dvd _ (Int.dvd_refl p), ← Int.mul_emod]
theorem mul_mod_l (a b p : Int) : a % p * b % p = a * b % p := by rw [Int.mul_emod, Int.emod_emod_of_dvd _ (Int.dvd_refl p), ← Int.mul_emod]
theorem pw_half (acc a p : Int) (n : Nat) : (if n % 2 = 1 then acc * a % p else acc) * pw (a * a % p) p (n / 2) % p = acc * pw a p n % p := by
  by_cases h : n % 2 = 1
  · rw [if_pos h]
    have e : n = 2 * (n / 2) + 1 := by omega
    generalize n / 2 = m at *
    subst e
    rw [mul_mod_l, ← mul_mod_r, pw_sq, mul_mod_r]
    show _ = acc * (pw a p (2 * m) * a % p) % p
    rw [mul_mod_r, Int.mul_assoc, Int.mul_comm a]
  · rw [if_neg h]
    have e : n = 2 * (n / 2) := by omega
    generalize n / 2 = m at *
    subst e
    rw [← mul_mod_r, pw_sq, mul_mod_r]
def sg (i : Nat) : Int := if i % 2 = 0 then 1 else -1
theorem sg_succ (i : Nat) : sg (i + 1) = -sg i := by
  unfold sg
  by_cases h : i % 2 = 0
  · rw [if_pos h, if_neg (by omega)]
  · rw [if_neg h, if_pos (by omega)]; rfl
def sm (g : Nat → Int) : Nat → Int
  | 0 => 0
  | n + 1 => sm g n + g n
/-- a row and the first column are left out. -/
def dlr (i : Int) (f : Int → Int → Int) : Int → Int → Int := fun a b => f (if a < i then a else a + 1) (b + 1)
def dt : Nat → (Int → Int → Int) → Int
  | 0, _ => 1
  | n + 1, f => sm (fun i => sg i * f i 0 * dt n (dlr i f)) (n + 1)
theorem sm_mod {g h : Nat → Int} {p : Int} : ∀ n, (∀ i, i < n → g i % p = h i % p) → sm g n % p = sm h n % p
  | 0, _ => rfl
  | n + 1, hh => by
    show (sm g n + g n) % p = (sm h n + h n) % p
    rw [Int.add_emod, sm_mod n fun i hi => hh i (by omega), hh n (by omega), ← Int.add_emod]
theorem sm_congr {g h : Nat → Int} (n : Nat) (hh : ∀ i, i < n → g i = h i) : sm g n = sm h n := by
  have := sm_mod (g := g) (h := h) (p := 0) n fun i hi => by rw [hh i hi]
  simpa using this
theorem dt_mod {p : Int} : ∀ n {f g : Int → Int → Int}, (∀ i j : Nat, i < n → j < n → f i j % p = g i j % p) → dt n f % p = dt n g % p
  | 0, _, _, _ => rfl
  | n + 1, f, g, h => by
    refine sm_mod (n + 1) fun i hi => ?_
    have ih := dt_mod (p := p) n (f := dlr i f) (g := dlr i g) fun a b ha hb => by
      unfold dlr
      by_cases c : (a : Int) < i
      · rw [if_pos c]; exact h a (b + 1) (by omega) (by omega)
      · rw [if_neg c]; exact h (a + 1) (b + 1) (by omega) (by omega)
    rw [Int.mul_emod, Int.mul_emod (sg i) (f i 0), show f i 0 % p = g i 0 % p from h i 0 hi (by omega), ih, ← Int.mul_emod (sg i), ← Int.mul_emod]
theorem dt_congr (n : Nat) {f g : Int → Int → Int} (h : ∀ i j : Nat, i < n → j < n → f i j = g i j) : dt n f = dt n g := by
  have := dt_mod (p := 0) n (f := f) (g := g) fun i j hi hj => by rw [h i j hi hj]
  simpa using this
theorem sm_swap {g h : Nat → Int} {r M : Nat} (h0 : ∀ i, i < M → i ≠ r → i ≠ r + 1 → h i = -g i) (h1 : h r = -g (r + 1)) (h2 : h (r + 1) = -g r) : ∀ n, n ≤ M → (n ≤ r → sm h n = -sm g n) ∧ (r + 2 ≤ n → sm h n = -sm g n)
  | 0, _ => ⟨fun _ => rfl, fun h => by omega⟩
  | n + 1, hM => by
    have ih := sm_swap h0 h1 h2 n (by omega)
    refine ⟨fun hn => ?_, fun hn => ?_⟩
    · show sm h n + h n = -(sm g n + g n)
      rw [ih.1 (by omega), h0 n (by omega) (by omega) (by omega)]; omega
    · by_cases e : n = r + 1
      · subst e
        have ih2 := (sm_swap h0 h1 h2 r (by omega)).1 (Nat.le_refl _)
        show sm h r + h r + h (r + 1) = -(sm g r + g r + g (r + 1))
        rw [ih2, h1, h2]; omega
      · show sm h n + h n = -(sm g n + g n)
        rw [ih.2 (by omega), h0 n (by omega) (by omega) (by omega)]; omega
def sx (a b i : Int) : Int := if i = a then b else if i = b then a else i
theorem swp_eq (f : Int → Int → Int) (a b i : Int) : swp f a b i = f (sx a b i) := by
  unfold swp sx; (repeat' split) <;> rfl
theorem dlr_eq (i : Int) (f : Int → Int → Int) (a b : Int) : dlr i f a b = f (if a < i then a else a + 1) (b + 1) := rfl
/-- two rows beside one another are exchanged. -/
theorem dt_adj : ∀ (n : Nat) (f : Int → Int → Int) (r : Nat), r + 1 < n → dt n (swp f r ((r + 1 : Nat) : Int)) = -dt n f
  | 0, _, _, h => by omega
  | n + 1, f, r, h => by
    refine (sm_swap (r := r) (M := n + 1) (fun i hin hi hi2 => ?_) ?_ ?_ (n + 1) (Nat.le_refl _)).2 (by omega)
    · have e : swp f r ((r + 1 : Nat) : Int) i = f i := by unfold swp; rw [if_neg (by omega), if_neg (by omega)]
      rw [e]
      by_cases c : i < r
      · have e2 : dlr i (swp f r ((r + 1 : Nat) : Int)) = swp (dlr i f) (r - 1 : Nat) (((r - 1) + 1 : Nat) : Int) := by
          funext a b
          simp only [dlr_eq, swp_eq]; congr 1; unfold sx; (repeat' split) <;> omega
        rw [e2, dt_adj n (dlr i f) (r - 1) (by omega), Int.mul_neg]
      · have e2 : dlr i (swp f r ((r + 1 : Nat) : Int)) = swp (dlr i f) r ((r + 1 : Nat) : Int) := by
          funext a b
          simp only [dlr_eq, swp_eq]; congr 1; unfold sx; (repeat' split) <;> omega
        rw [e2, dt_adj n (dlr i f) r (by omega), Int.mul_neg]
    · have e : swp f r ((r + 1 : Nat) : Int) r = f ((r + 1 : Nat) : Int) := by unfold swp; rw [if_pos rfl]
      have e2 : dlr r (swp f r ((r + 1 : Nat) : Int)) = dlr ((r + 1 : Nat) : Int) f := by
        funext a b
        simp only [dlr_eq, swp_eq]; congr 1; unfold sx; (repeat' split) <;> omega
      try dsimp only
      rw [e, e2, sg_succ, Int.neg_mul, Int.neg_mul, Int.neg_neg]
    · have e : swp f r ((r + 1 : Nat) : Int) ((r + 1 : Nat) : Int) = f r := by unfold swp; rw [if_neg (by omega), if_pos rfl]
      have e2 : dlr ((r + 1 : Nat) : Int) (swp f r ((r + 1 : Nat) : Int)) = dlr r f := by
        funext a b
        simp only [dlr_eq, swp_eq]; congr 1; unfold sx; (repeat' split) <;> omega
      try dsimp only
      rw [e, e2, sg_succ, Int.neg_mul, Int.neg_mul]
theorem dt_swap (n : Nat) : ∀ (d : Nat) (f : Int → Int → Int) (r : Nat), r + d + 1 < n → dt n (swp f r ((r + d + 1 : Nat) : Int)) = -dt n f
  | 0, f, r, h => dt_adj n f r h
  | d + 1, f, r, h => by
    have e : swp f r ((r + (d + 1) + 1 : Nat) : Int) = swp (swp (swp f ((r + d + 1 : Nat) : Int) ((r + d + 1 + 1 : Nat) : Int)) r ((r + d + 1 : Nat) : Int)) ((r + d + 1 : Nat) : Int) ((r + d + 1 + 1 : Nat) : Int) := by
      funext a
      simp only [swp_eq]; congr 1; unfold sx; (repeat' split) <;> omega
    rw [e, dt_adj n _ (r + d + 1) (by omega), dt_swap n d _ r (by omega), dt_adj n f (r + d + 1) (by omega)]; omega
theorem dt_swp {n : Nat} (f : Int → Int → Int) {r s : Nat} (h : r < s) (hs : s < n) : dt n (swp f r s) = -dt n f := by
  obtain ⟨d, rfl⟩ : ∃ d, s = r + d + 1 := ⟨s - r - 1, by omega⟩
  exact dt_swap n d f r hs
/-- two equal rows. -/
theorem dt_eqr {n : Nat} {f : Int → Int → Int} {r s : Nat} (h : r < s) (hs : s < n) (he : f r = f s) : dt n f = 0 := by
  have h1 := dt_swp f h hs
  have h2 : swp f r s = f := by
    funext a; unfold swp
    by_cases a1 : a = r
    · rw [if_pos a1, a1, he]
    · by_cases a2 : a = s
      · rw [if_neg a1, if_pos a2, a2, he]
      · rw [if_neg a1, if_neg a2]
  rw [h2] at h1; omega
def setr (f : Int → Int → Int) (r : Int) (v : Int → Int) : Int → Int → Int := fun i => if i = r then v else f i
theorem setr_self (f : Int → Int → Int) (r : Int) : setr f r (f r) = f := by
  funext i; unfold setr; by_cases e : i = r
  · rw [if_pos e, e]
  · rw [if_neg e]
theorem sm_lin {g h k : Nat → Int} {u : Int} : ∀ n, (∀ i, i < n → k i = u * g i + h i) → sm k n = u * sm g n + sm h n
  | 0, _ => by simp [sm]
  | n + 1, hh => by
    show sm k n + k n = u * (sm g n + g n) + (sm h n + h n)
    rw [sm_lin n fun i hi => hh i (by omega), hh n (by omega), Int.mul_add]; omega
/-- linear in each row. -/
theorem dt_lin : ∀ (n : Nat) (f : Int → Int → Int) (r : Nat) (u : Int) (x v : Int → Int), r < n → dt n (setr f r (fun j => u * x j + v j)) = u * dt n (setr f r x) + dt n (setr f r v)
  | 0, _, _, _, _, _, h => by omega
  | n + 1, f, r, u, x, v, h => by
    refine sm_lin (n + 1) fun i hi => ?_
    by_cases c : i = r
    · subst c
      have e : ∀ y : Int → Int, dlr i (setr f i y) = dlr i f := fun y => by
        funext a b
        unfold dlr setr
        try dsimp only
        by_cases a1 : a < i
        · rw [if_pos a1, if_neg (by omega)]
        · rw [if_neg a1, if_neg (by omega)]
      rw [e, e, e]
      unfold setr
      rw [if_pos rfl, if_pos rfl, if_pos rfl, Int.mul_add, Int.add_mul, Int.mul_left_comm, Int.mul_assoc]
    · have e0 : ∀ y : Int → Int, setr f r y i 0 = f i 0 := fun y => by unfold setr; rw [if_neg (by omega)]
      have e : ∃ r' : Nat, r' < n ∧ ∀ y : Int → Int, dlr i (setr f r y) = setr (dlr i f) r' (fun j => y (j + 1)) := by
        by_cases c2 : r < i
        · refine ⟨r, by omega, fun y => ?_⟩
          funext a b
          unfold dlr setr
          try dsimp only
          by_cases a1 : a < i
          · rw [if_pos a1]
            by_cases a2 : a = r
            · rw [if_pos a2, if_pos a2]
            · rw [if_neg a2, if_neg a2]; try rw [if_pos a1]
          · rw [if_neg a1, if_neg (by omega), if_neg (by omega)]; try rw [if_neg a1]
        · refine ⟨r - 1, by omega, fun y => ?_⟩
          funext a b
          unfold dlr setr
          try dsimp only
          by_cases a1 : a < i
          · rw [if_pos a1, if_neg (by omega), if_neg (by omega)]; try rw [if_pos a1]
          · rw [if_neg a1]
            by_cases a2 : a + 1 = r
            · rw [if_pos a2, if_pos (by omega)]
            · rw [if_neg a2, if_neg (by omega)]; try rw [if_neg a1]
      obtain ⟨r', hr', e⟩ := e
      rw [e, e, e, e0, e0, e0, dt_lin n (dlr i f) r' u (fun j => x (j + 1)) (fun j => v (j + 1)) hr', Int.mul_add, Int.mul_left_comm]
/-- a multiple of another row is added. -/
theorem dt_addr {n : Nat} (f : Int → Int → Int) {r s : Nat} (hr : r < n) (hs : s < n) (hne : r ≠ s) (k : Int) : dt n (setr f s (fun j => k * f r j + f s j)) = dt n f := by
  rw [dt_lin n f s k (f r) (f s) hs, setr_self]
  have : dt n (setr f s (f r)) = 0 := by
    have e1 : setr f s (f r) r = f r := by unfold setr; rw [if_neg (by omega)]
    have e2 : setr f s (f r) s = f r := by unfold setr; rw [if_pos rfl]
    rcases Nat.lt_or_gt_of_ne hne with h | h
    · exact dt_eqr h hs (e1.trans e2.symm)
    · exact dt_eqr h hr (e2.trans e1.symm)
  rw [this]; omega
theorem dt_scale {n : Nat} (f : Int → Int → Int) {r : Nat} (hr : r < n) (k : Int) : dt n (setr f r (fun j => k * f r j)) = k * dt n f := by
  have := dt_lin n f r k (f r) (fun _ => 0) hr
  have h0 := dt_lin n f r 0 (f r) (fun _ => 0) hr
  have e : dt n (setr f r (fun _ => 0)) = 0 := by
    have h1 := dt_lin n f r 1 (fun _ => 0) (fun _ => 0) hr
    simp only [Int.mul_zero, Int.add_zero] at h1
    omega
  rw [e, setr_self] at this
  simpa using this
/-- multiples of the first row are added to all others. -/
theorem dt_clear {n : Nat} (f : Int → Int → Int) (k : Int → Int) (hn : 0 < n) : ∀ m, m ≤ n → dt n (fun i j => if 1 ≤ i ∧ i < m then f i j + k i * f 0 j else f i j) = dt n f
  | 0, _ => dt_congr n fun i j _ _ => if_neg (by omega)
  | 1, _ => dt_congr n fun i j _ _ => if_neg (by omega)
  | m + 2, hm => by
    rw [← dt_clear f k hn (m + 1) (by omega)]
    rw [← dt_addr (fun i j => if 1 ≤ i ∧ i < ((m + 1 : Nat) : Int) then f i j + k i * f 0 j else f i j) (r := 0) (s := m + 1) hn (by omega) (by omega) (k (m + 1))]
    refine dt_congr n fun i j hi hj => ?_
    unfold setr
    try dsimp only
    by_cases c : (i : Int) = ((m + 1 : Nat) : Int)
    · rw [if_pos c, if_pos (by omega), if_neg (by omega), if_neg (by omega), c]
      have e : ((0 : Nat) : Int) = 0 := rfl
      have e2 : ((m + 1 : Nat) : Int) = (m : Int) + 1 := rfl
      rw [e, e2]; omega
    · rw [if_neg c]
      by_cases c2 : 1 ≤ (i : Int) ∧ (i : Int) < ((m + 1 : Nat) : Int)
      · rw [if_pos c2, if_pos (by omega)]
      · rw [if_neg c2, if_neg (by omega)]
/-- only the first row has something in the first column. -/
theorem dt_col {n : Nat} {f : Int → Int → Int} (h : ∀ i : Nat, 1 ≤ i → i < n + 1 → f i 0 = 0) : dt (n + 1) f = f 0 0 * dt n (dlr 0 f) := by
  have key : ∀ m, m ≤ n → sm (fun i => sg i * f i 0 * dt n (dlr i f)) (m + 1) = f 0 0 * dt n (dlr 0 f) := by
    intro m
    induction m with
    | zero => intro _; simp [sm, sg]
    | succ m ih =>
      intro hm
      show sm (fun i => sg i * f i 0 * dt n (dlr i f)) (m + 1) + sg (m + 1) * f ((m + 1 : Nat) : Int) 0 * dt n (dlr ((m + 1 : Nat) : Int) f) = _
      rw [ih (by omega), h (m + 1) (by omega) (by omega)]; simp
  exact key n (Nat.le_refl _)
theorem dt_zcol {n : Nat} {f : Int → Int → Int} (h : ∀ i : Nat, i < n + 1 → f i 0 = 0) : dt (n + 1) f = 0 := by
  rw [dt_col fun i _ hi => h i hi, show f 0 0 = 0 from h 0 (by omega), Int.zero_mul]
def del (G : GH) (b : Nat) : GH := fun x => if x = b then none else G x
theorem del_none (G : GH) (b : Nat) : del G b b = none := if_pos rfl
theorem Sub.del (G : GH) (b : Nat) : Sub (Gh.del G b) G := fun x e h => by
  unfold Gh.del at h; split at h
  · cases h
  · exact h
theorem Sub.in_del {K G : GH} {b : Nat} (s : Sub K G) (h : K b = Option.none) : Sub K (Gh.del G b) := fun x e hx => by
  have hxb : x ≠ b := fun e' => by rw [e', h] at hx; cases hx
  unfold Gh.del; rw [if_neg hxb]; exact s x e hx
theorem del_ne (G : GH) {b x : Nat} (h : x ≠ b) : del G b x = G x := if_neg h
theorem st_src {G : GH} {b o : Nat} {cs : List Value} {v : Value} {K : Value → GH → Prop} (h : G b = some ⟨cs, true⟩) (h1 : oneB v = true) (ho : o < cs.length) (hk : ∀ G', Keep b G G' → G' b = some ⟨cs.set o v, true⟩ → K undef G') : gSt 1 (.pointer (some ⟨b, o, none⟩)) v G K :=
  st_one h ho h1 (hk _ (fun y hy => put_ne _ _ hy) (put_same _ _ _))
theorem T3S.cells {G : GH} {A : Option Addr} {c : Nat} {es : List T3} (h : T3S G A c es) : Cells G A (flat3 es) := fun i v hv => by
  have hl : i < (flat3 es).length := by
    rcases Nat.lt_or_ge i (flat3 es).length with h | h
    · exact h
    · rw [List.getElem?_eq_none h] at hv; cases hv
  rw [flat3_len] at hl
  have hi : i / 3 < es.length := by omega
  obtain ⟨g0, g1, g2⟩ := flat3_get es (i / 3) hi
  have h3 : i % 3 = 0 ∨ i % 3 = 1 ∨ i % 3 = 2 := by omega
  rcases h3 with h3 | h3 | h3
  · rw [show i = i / 3 * 3 by omega] at hv ⊢
    rw [g0] at hv; cases hv
    exact h.r0 _ hi
  · have e : i = i / 3 * 3 + 1 := by omega
    rw [e] at hv ⊢
    rw [g1] at hv; cases hv
    exact h.r1 _ hi
  · have e : i = i / 3 * 3 + 2 := by omega
    rw [e] at hv ⊢
    rw [g2] at hv; cases hv
    exact h.r2 _ hi
theorem Own.del {G : GH} {A : Option Addr} {c sz n b : Nat} {cs : List Value} (h : Own G A c cs sz n) (hb : ∀ a, A = some a → a.block ≠ b) : Own (Gh.del G b) A c cs sz n := by
  rcases h with h | ⟨x, r, rfl, h2, h3⟩
  · exact .inl h
  · exact .inr ⟨x, r, rfl, by rw [del_ne _ (hb _ rfl)]; exact h2, h3⟩
/-- the heap without the block of a list. -/
def wo (G : GH) (A : Option Addr) : GH := fun x => if A.map (·.block) = some x then none else G x
theorem Sub.wo (G : GH) (A : Option Addr) : Sub (Gh.wo G A) G := fun x e h => by
  unfold Gh.wo at h; split at h
  · cases h
  · exact h
theorem Off.wo (G : GH) (A : Option Addr) : Off (Gh.wo G A) A := fun a ha => by unfold Gh.wo; rw [if_pos (by rw [ha]; rfl)]
theorem wo_ne {G : GH} {A : Option Addr} {x : Nat} (h : ∀ a, A = some a → a.block ≠ x) : wo G A x = G x := by
  unfold wo; rw [if_neg]
  cases A with
  | none => simp
  | some a => simp; exact h a rfl
def z2 : List Value := [.int .i64 0, .slice none 0 0]
def rowL (C : Nat) (g : Int → Int) : List Int := (List.range C).map fun j : Nat => g j
theorem rowL_len (C : Nat) (g : Int → Int) : (rowL C g).length = C := by simp [rowL]
theorem rowL_get {C : Nat} (g : Int → Int) {j : Nat} (h : j < C) : (rowL C g).getD j 0 = g j := by simp [rowL, List.getD, h]
theorem rowL_succ (C : Nat) (g : Int → Int) : rowL (C + 1) g = rowL C g ++ [g C] := by simp [rowL, List.range_succ]
theorem rowL_congr {C : Nat} {f g : Int → Int} (h : ∀ j : Nat, j < C → f j = g j) : rowL C f = rowL C g := by
  unfold rowL
  exact List.map_congr_left fun j hj => h j (List.mem_range.1 hj)
def rowsC (A : Nat → Option Addr) (c : Nat → Nat) (R C : Nat) : List Value := (List.range R).map fun i => .slice (A i) C (c i)
theorem rowsC_len (A : Nat → Option Addr) (c : Nat → Nat) (R C : Nat) : (rowsC A c R C).length = R := by simp [rowsC]
theorem rowsC_get {A : Nat → Option Addr} {c : Nat → Nat} {R C i : Nat} (h : i < R) : (rowsC A c R C)[i]? = some (.slice (A i) C (c i)) := by simp [rowsC, h]
theorem rowsC_set {A : Nat → Option Addr} {c : Nat → Nat} {R C i : Nat} (A' : Option Addr) (c' : Nat) : (rowsC A c R C).set i (.slice A' C c') = rowsC (fun k => if k = i then A' else A k) (fun k => if k = i then c' else c k) R C := by
  unfold rowsC
  apply List.ext_getElem
  · simp
  · intro k h1 h2
    simp only [List.length_set, List.length_map, List.length_range] at h1
    by_cases e : i = k
    · subst e; simp
    · have e' : k ≠ i := fun x => e x.symm
      simp [List.getElem_set, e, e']
theorem Sub.del2 {G G' : GH} (s : Sub G G') (b : Nat) : Sub (Gh.del G b) (Gh.del G' b) := fun x e h => by
  unfold Gh.del at h ⊢
  split at h
  · cases h
  · rename_i hne; rw [if_neg hne]; exact s x e h
theorem wo_mono {G G' : GH} (s : Sub G G') (Z : Option Addr) : Sub (wo G Z) (wo G' Z) := fun x e h => by
  unfold wo at h ⊢
  split at h
  · cases h
  · rename_i hne; rw [if_neg hne]; exact s x e h
/-- what is known of rows: the outer block b is one's own; the rows lie elsewhere than at Z. -/
structure Rw (H G : GH) (b : Nat) (A : Nat → Option Addr) (c : Nat → Nat) (R C : Nat) (f : Int → Int → Int) (rest : List Value) (Z : Option Addr) : Prop where
  sub : Sub H G
  nb : H b = none
  blk : G b = some ⟨rowsC A c R C ++ rest, true⟩
  row : ∀ i : Nat, i < R → IntS (del (wo G Z) b) (A i) (c i) (rowL C (f i))
theorem Rw.get {H G : GH} {b : Nat} {A : Nat → Option Addr} {c : Nat → Nat} {R C : Nat} {f : Int → Int → Int} {rest : List Value} {Z : Option Addr} (h : Rw H G b A c R C f rest Z) {i : Nat} (hi : i < R) : rd G (some ⟨b, i, none⟩) = some (.slice (A i) C (c i)) := by
  simp only [rd, h.blk, Option.bind_some]
  rw [List.getElem?_append_left (by rw [rowsC_len]; exact hi), rowsC_get hi]
theorem Rw.ints {H G : GH} {b : Nat} {A : Nat → Option Addr} {c : Nat → Nat} {R C : Nat} {f : Int → Int → Int} {rest : List Value} {Z : Option Addr} (h : Rw H G b A c R C f rest Z) {i : Nat} (hi : i < R) : IntS G (A i) (c i) (rowL C (f i)) := (h.row i hi).sub ((Gh.Sub.del _ _).trans (Gh.Sub.wo _ _))
theorem Rw.cell {H G : GH} {b : Nat} {A : Nat → Option Addr} {c : Nat → Nat} {R C : Nat} {f : Int → Int → Int} {rest : List Value} {Z : Option Addr} (h : Rw H G b A c R C f rest Z) {i j : Nat} (hi : i < R) (hj : j < C) : rd G (pa (A i) j) = some (.int .i64 (f i j)) := by
  have := (h.ints hi).rd j (by rw [rowL_len]; exact hj)
  rwa [rowL_get _ hj] at this
theorem Rw.sn {H G : GH} {b : Nat} {A : Nat → Option Addr} {c : Nat → Nat} {R C : Nat} {f : Int → Int → Int} {rest : List Value} {Z : Option Addr} (h : Rw H G b A c R C f rest Z) {i : Nat} (hi : i < R) (hC : 0 < C) : 0 < sn (A i) := (h.ints hi).sn (by rw [rowL_len]; exact hC)
theorem Rw.up {H G : GH} {b : Nat} {A : Nat → Option Addr} {c : Nat → Nat} {R C : Nat} {f : Int → Int → Int} {rest : List Value} {Z : Option Addr} {G' : GH} (h : Rw H G b A c R C f rest Z) (s : Sub G G') : Rw H G' b A c R C f rest Z :=
  ⟨h.sub.trans s, h.nb, s _ _ h.blk, fun i hi => (h.row i hi).sub ((wo_mono s Z).del2 b)⟩
theorem Rw.low {H G : GH} {b : Nat} {A : Nat → Option Addr} {c : Nat → Nat} {R C : Nat} {f : Int → Int → Int} {rest : List Value} {Z : Option Addr} {H' : GH} (h : Rw H G b A c R C f rest Z) (s : Sub H' H) : Rw H' G b A c R C f rest Z := ⟨s.trans h.sub, s.none h.nb, h.blk, h.row⟩
theorem Rw.cong {H G : GH} {b : Nat} {A : Nat → Option Addr} {c : Nat → Nat} {R C : Nat} {f : Int → Int → Int} {rest : List Value} {Z : Option Addr} {g : Int → Int → Int} (h : Rw H G b A c R C f rest Z) (e : ∀ i j : Nat, i < R → j < C → f i j = g i j) : Rw H G b A c R C g rest Z :=
  ⟨h.sub, h.nb, h.blk, fun i hi => by rw [← rowL_congr fun j hj => e i j hi hj]; exact h.row i hi⟩
theorem Rw.all {H G : GH} {b : Nat} {A : Nat → Option Addr} {c : Nat → Nat} {R C : Nat} {f : Int → Int → Int} {rest : List Value} {Z : Option Addr} (h : Rw H G b A c R C f rest Z) : Rw (Gh.del G b) G b A c R C f rest Z := ⟨Gh.Sub.del _ _, del_none _ _, h.blk, h.row⟩
/-- a new list is apart from the outer block and from another one. -/
theorem New.del {G G' : GH} {A Z : Option Addr} {c b : Nat} {xs : List Int} {e : Ent} (h : New G G' A c (xs.map I64) 1 xs.length) (hb : G b = some e) (hZ : ∀ a, Z = some a → ∃ e, G a.block = some e) : IntS (Gh.del (wo G' Z) b) A c xs := by
  have hi := h.ints
  rcases h with ⟨_, _, h0, _, _⟩ | ⟨x, r, rfl, hx, rfl, _⟩
  · exact ⟨hi.cap, fun i hlt => by omega⟩
  · have hne : x ≠ b := fun e' => by rw [e', hb] at hx; cases hx
    have hnz : ∀ a, Z = some a → a.block ≠ x := fun a ha e' => by
      obtain ⟨e2, h2⟩ := hZ a ha
      rw [e', hx] at h2; cases h2
    refine ⟨hi.cap, fun i hlt => ?_⟩
    have := hi.rd i hlt
    simp only [pa_mk, rd] at this ⊢
    unfold Gh.del
    rw [if_neg hne, wo_ne hnz]; exact this
/-- a row is written. -/
theorem Rw.st {H G : GH} {b : Nat} {A : Nat → Option Addr} {c : Nat → Nat} {R C : Nat} {f : Int → Int → Int} {rest : List Value} {Z : Option Addr} (h : Rw H G b A c R C f rest Z) {i : Nat} (hi : i < R) (hbz : ∀ a, Z = some a → a.block ≠ b) {A' : Option Addr} {c' : Nat} {g : Int → Int} (hg : IntS (Gh.del (wo G Z) b) A' c' (rowL C g)) {K : Value → GH → Prop}
    (hk : ∀ G', Rw H G' b (fun k => if k = i then A' else A k) (fun k => if k = i then c' else c k) R C (setr f i g) rest Z → Gh.del G' b = Gh.del G b → Gh.del (wo G' Z) b = Gh.del (wo G Z) b → K undef G') : gSt 1 (.pointer (some ⟨b, i, none⟩)) (.slice A' C c') G K := by
  refine st_src h.blk rfl (by rw [List.length_append, rowsC_len]; omega) fun G' hK hb => ?_
  have hd : Gh.del G' b = Gh.del G b := by
    funext x
    unfold Gh.del
    by_cases e : x = b
    · rw [if_pos e, if_pos e]
    · rw [if_neg e, if_neg e, hK x e]
  have hd2 : Gh.del (wo G' Z) b = Gh.del (wo G Z) b := by
    funext x
    unfold Gh.del wo
    by_cases e : x = b
    · rw [if_pos e, if_pos e]
    · rw [if_neg e, if_neg e, hK x e]
  refine hk G' ⟨sub_keep hK h.nb h.sub, h.nb, ?_, fun k hk' => ?_⟩ hd hd2
  · rw [hb, List.set_append_left _ _ (by rw [rowsC_len]; exact hi), rowsC_set]
  · rw [hd2]
    by_cases e : k = i
    · subst e
      simp only [if_true]
      have : setr f k g k = g := by unfold setr; rw [if_pos rfl]
      rw [this]; exact hg
    · simp only [if_neg e]
      have : setr f i g k = f k := by unfold setr; rw [if_neg (by omega)]
      rw [this]; exact h.row k hk'
/-- the list at Z grows. -/
theorem Rw.rez {H G : GH} {b : Nat} {A : Nat → Option Addr} {c : Nat → Nat} {R C : Nat} {f : Int → Int → Int} {rest : List Value} {Z : Option Addr} {G' : GH} {Z' : Option Addr} (h : Rw H G b A c R C f rest Z) (hbz : ∀ a, Z = some a → a.block ≠ b) (oH : Off H Z) (s : Sub (wo G Z) G') (o : Off (wo G Z) Z') : Rw H G' b A c R C f rest Z' ∧ Off H Z' ∧ ∀ a, Z' = some a → a.block ≠ b := by
  have hwb : wo G Z b = some ⟨rowsC A c R C ++ rest, true⟩ := by rw [wo_ne hbz]; exact h.blk
  have s0 : Sub H (wo G Z) := fun x e hx => by
    rw [wo_ne fun a ha e' => by have := oH a ha; rw [e', hx] at this; cases this]
    exact h.sub _ _ hx
  have s1 : Sub (wo G Z) (wo G' Z') := fun x e hx => by
    rw [wo_ne fun a ha e' => by have := o a ha; rw [e', hx] at this; cases this]
    exact s _ _ hx
  exact ⟨⟨s0.trans s, h.nb, s _ _ hwb, fun i hi => (h.row i hi).sub (s1.del2 b)⟩, o.mono s0, fun a ha e => by have := o a ha; rw [e, hwb] at this; cases this⟩
theorem red_eq {a p : Int} (hp : 0 < p) : (a.tmod p + p).tmod p = a % p := by
  have h1 := Int.mul_tdiv_add_tmod a p
  have h2 : -p < a.tmod p := by
    have := Int.lt_tmod_of_pos a hp; omega
  rw [Int.tmod_eq_emod_of_nonneg (by omega)]
  have e : a.tmod p + p = a + p * (1 - a.tdiv p) := by rw [Int.mul_sub, Int.mul_one]; omega
  rw [e, Int.add_mul_emod_self_left]
theorem red_bd {a p : Int} (hp : 0 < p) : -p < a.tmod p ∧ a.tmod p < p := ⟨Int.lt_tmod_of_pos a hp, Int.tmod_lt_of_pos a hp⟩
theorem impl_reduce_ok {a p : Int} (hp : 0 < p ∧ p ≤ 2 ^ 31) {G : GH} {K : Value → GH → Prop} (hk : K (.int .i64 (a % p)) G) : GC Try.prog 165 [.int .i64 a, .int .i64 p] G K := by
  refine c_impl_reduce_i (by simp) ?_
  have hb := red_bd (a := a) hp.1
  simp (maxSteps := 300000) (disch := omega) only [gs, gs2, gs3, ↓reduceIte, Nat.reduceEqDiff, Nat.mul_one, Nat.add_zero, Nat.zero_add, Nat.zero_mul, Int.toNat_natCast, Int.reduceToNat, Nat.reduceMul, Nat.reduceAdd, decide_true, decide_false, Bool.not_true, Bool.not_false, true_and, and_true, List.map_cons, List.map_nil, List.nil_append, List.cons_append, List.append_nil, Option.map_some, Option.bind_some, List.getElem?_cons_zero, List.getElem?_cons_succ, Bool.false_eq_true, not_true_eq_false, not_false_eq_true, List.contains_cons, List.contains_nil, Nat.reduceBEq, Bool.true_or, Bool.false_or, Bool.or_true, List.set_cons_zero, List.set_cons_succ, List.length_cons, List.length_nil, isLd, Bool.true_and, Bool.false_and, Bool.and_true, Bool.and_false, bin_rem .i64 a p (by omega), fun x : Int => bin_rem .i64 x p (by omega)]
  rw [red_eq hp.1]; exact hk
theorem spec_l02Mod_ok {a p : Int} (hp : 0 < p ∧ p ≤ 2 ^ 31) {G : GH} {K : Value → GH → Prop} (hk : K (.int .i64 (a % p)) G) : GC Try.prog 161 [.int .i64 a, .int .i64 p] G K := by
  refine c_spec_l02Mod_i (by simp) ?_
  have hb := red_bd (a := a) hp.1
  simp (maxSteps := 300000) (disch := omega) only [gs, gs2, gs3, ↓reduceIte, Nat.reduceEqDiff, Nat.mul_one, Nat.add_zero, Nat.zero_add, Nat.zero_mul, Int.toNat_natCast, Int.reduceToNat, Nat.reduceMul, Nat.reduceAdd, decide_true, decide_false, Bool.not_true, Bool.not_false, true_and, and_true, List.map_cons, List.map_nil, List.nil_append, List.cons_append, List.append_nil, Option.map_some, Option.bind_some, List.getElem?_cons_zero, List.getElem?_cons_succ, Bool.false_eq_true, not_true_eq_false, not_false_eq_true, List.contains_cons, List.contains_nil, Nat.reduceBEq, Bool.true_or, Bool.false_or, Bool.or_true, List.set_cons_zero, List.set_cons_succ, List.length_cons, List.length_nil, isLd, Bool.true_and, Bool.false_and, Bool.and_true, Bool.and_false, bin_rem .i64 a p (by omega), fun x : Int => bin_rem .i64 x p (by omega)]
  rw [red_eq hp.1]; exact hk
theorem impl_powerOf_ok {a p : Int} {n : Nat} (ha : 0 ≤ a ∧ a ≤ 2 ^ 31) (hp : 1 < p ∧ p ≤ 2 ^ 31) (hn : n < 2 ^ 40) {G : GH} {K : Value → GH → Prop} (hk : K (.int .i64 (pw a p n)) G) : GC Try.prog 256 [.int .i64 a, .int .i64 n, .int .i64 p] G K := by
  refine c_impl_powerOf_i (by simp) ?_
  simp (maxSteps := 300000) (disch := omega) only [gs, gs2, gs3, ↓reduceIte, Nat.reduceEqDiff, Nat.mul_one, Nat.add_zero, Nat.zero_add, Nat.zero_mul, Int.toNat_natCast, Int.reduceToNat, Nat.reduceMul, Nat.reduceAdd, decide_true, decide_false, Bool.not_true, Bool.not_false, true_and, and_true, List.map_cons, List.map_nil, List.nil_append, List.cons_append, List.append_nil, Option.map_some, Option.bind_some, List.getElem?_cons_zero, List.getElem?_cons_succ, Bool.false_eq_true, not_true_eq_false, not_false_eq_true, List.contains_cons, List.contains_nil, Nat.reduceBEq, Bool.true_or, Bool.false_or, Bool.or_true, List.set_cons_zero, List.set_cons_succ, List.length_cons, List.length_nil, isLd, Bool.true_and, Bool.false_and, Bool.and_true, Bool.and_false]
  refine gLoop_intro (fun m T G' => ∃ (k : Nat) (b acc : Int), T 0 = .int .i64 b ∧ T 1 = .int .i64 k ∧ T 2 = .int .i64 p ∧ T 7 = .int .i64 acc ∧ m = k ∧ k < 2 ^ 40 ∧ G = G' ∧ (0 ≤ b ∧ b ≤ 2 ^ 31) ∧ (0 ≤ acc ∧ acc < p) ∧ acc * pw b p k % p = pw a p n % p)
    n ⟨n, a, 1, by simp (maxSteps := 300000) (disch := omega) only [gs, gs2, gs3, ↓reduceIte, Nat.reduceEqDiff, Nat.mul_one, Nat.add_zero, Nat.zero_add, Nat.zero_mul, Int.toNat_natCast, Int.reduceToNat, Nat.reduceMul, Nat.reduceAdd, decide_true, decide_false, Bool.not_true, Bool.not_false, true_and, and_true, List.map_cons, List.map_nil, List.nil_append, List.cons_append, List.append_nil, Option.map_some, Option.bind_some, List.getElem?_cons_zero, List.getElem?_cons_succ, Bool.false_eq_true, not_true_eq_false, not_false_eq_true, List.contains_cons, List.contains_nil, Nat.reduceBEq, Bool.true_or, Bool.false_or, Bool.or_true, List.set_cons_zero, List.set_cons_succ, List.length_cons, List.length_nil, isLd, Bool.true_and, Bool.false_and, Bool.and_true, Bool.and_false], by simp (maxSteps := 300000) (disch := omega) only [gs, gs2, gs3, ↓reduceIte, Nat.reduceEqDiff, Nat.mul_one, Nat.add_zero, Nat.zero_add, Nat.zero_mul, Int.toNat_natCast, Int.reduceToNat, Nat.reduceMul, Nat.reduceAdd, decide_true, decide_false, Bool.not_true, Bool.not_false, true_and, and_true, List.map_cons, List.map_nil, List.nil_append, List.cons_append, List.append_nil, Option.map_some, Option.bind_some, List.getElem?_cons_zero, List.getElem?_cons_succ, Bool.false_eq_true, not_true_eq_false, not_false_eq_true, List.contains_cons, List.contains_nil, Nat.reduceBEq, Bool.true_or, Bool.false_or, Bool.or_true, List.set_cons_zero, List.set_cons_succ, List.length_cons, List.length_nil, isLd, Bool.true_and, Bool.false_and, Bool.and_true, Bool.and_false], by simp (maxSteps := 300000) (disch := omega) only [gs, gs2, gs3, ↓reduceIte, Nat.reduceEqDiff, Nat.mul_one, Nat.add_zero, Nat.zero_add, Nat.zero_mul, Int.toNat_natCast, Int.reduceToNat, Nat.reduceMul, Nat.reduceAdd, decide_true, decide_false, Bool.not_true, Bool.not_false, true_and, and_true, List.map_cons, List.map_nil, List.nil_append, List.cons_append, List.append_nil, Option.map_some, Option.bind_some, List.getElem?_cons_zero, List.getElem?_cons_succ, Bool.false_eq_true, not_true_eq_false, not_false_eq_true, List.contains_cons, List.contains_nil, Nat.reduceBEq, Bool.true_or, Bool.false_or, Bool.or_true, List.set_cons_zero, List.set_cons_succ, List.length_cons, List.length_nil, isLd, Bool.true_and, Bool.false_and, Bool.and_true, Bool.and_false], by simp (maxSteps := 300000) (disch := omega) only [gs, gs2, gs3, ↓reduceIte, Nat.reduceEqDiff, Nat.mul_one, Nat.add_zero, Nat.zero_add, Nat.zero_mul, Int.toNat_natCast, Int.reduceToNat, Nat.reduceMul, Nat.reduceAdd, decide_true, decide_false, Bool.not_true, Bool.not_false, true_and, and_true, List.map_cons, List.map_nil, List.nil_append, List.cons_append, List.append_nil, Option.map_some, Option.bind_some, List.getElem?_cons_zero, List.getElem?_cons_succ, Bool.false_eq_true, not_true_eq_false, not_false_eq_true, List.contains_cons, List.contains_nil, Nat.reduceBEq, Bool.true_or, Bool.false_or, Bool.or_true, List.set_cons_zero, List.set_cons_succ, List.length_cons, List.length_nil, isLd, Bool.true_and, Bool.false_and, Bool.and_true, Bool.and_false], rfl, hn, rfl, ha, by omega, by rw [Int.one_mul]⟩ ?_
  rintro k T G' ⟨_, b, acc, e0, e1, e2, e7, rfl, hk2, rfl, hb, hacc, he⟩
  simp (maxSteps := 300000) (disch := omega) only [gs, gs2, gs3, ↓reduceIte, Nat.reduceEqDiff, Nat.mul_one, Nat.add_zero, Nat.zero_add, Nat.zero_mul, Int.toNat_natCast, Int.reduceToNat, Nat.reduceMul, Nat.reduceAdd, decide_true, decide_false, Bool.not_true, Bool.not_false, true_and, and_true, List.map_cons, List.map_nil, List.nil_append, List.cons_append, List.append_nil, Option.map_some, Option.bind_some, List.getElem?_cons_zero, List.getElem?_cons_succ, Bool.false_eq_true, not_true_eq_false, not_false_eq_true, List.contains_cons, List.contains_nil, Nat.reduceBEq, Bool.true_or, Bool.false_or, Bool.or_true, List.set_cons_zero, List.set_cons_succ, List.length_cons, List.length_nil, isLd, Bool.true_and, Bool.false_and, Bool.and_true, Bool.and_false, e0, e1, e2, e7]
  have hrem := fun x : Int => bin_rem .i64 x p (by omega)
  have hm1 := mulB (a := acc) (b := b) (A := 2 ^ 31) (B := 2 ^ 31) (by omega) (by omega)
  have hm2 := mulB (a := b) (b := b) (A := 2 ^ 31) (B := 2 ^ 31) (by omega) (by omega)
  have hn1 : 0 ≤ acc * b := Int.mul_nonneg hacc.1 hb.1
  have hn2 : 0 ≤ b * b := Int.mul_nonneg hb.1 hb.1
  have w1 := w64 (acc * b) (by omega) (by omega)
  have w2 := w64 (b * b) (by omega) (by omega)
  have r1 : (acc * b).tmod p = acc * b % p := Int.tmod_eq_emod_of_nonneg hn1
  have r2 : (b * b).tmod p = b * b % p := Int.tmod_eq_emod_of_nonneg hn2
  have q1 := Int.emod_nonneg (acc * b) (show p ≠ 0 by omega)
  have q2 := Int.emod_lt_of_pos (acc * b) (show 0 < p by omega)
  have q3 := Int.emod_nonneg (b * b) (show p ≠ 0 by omega)
  have q4 := Int.emod_lt_of_pos (b * b) (show 0 < p by omega)
  by_cases hk0 : (0 : Int) < k
  · have hh := pw_half acc b p k
    have d2 : ((k : Int)).tdiv 2 = ((k / 2 : Nat) : Int) := by rw [Int.tdiv_eq_ediv_of_nonneg (by omega)]; rfl
    have hq := w64 ((k / 2 : Nat) : Int) (by omega) (by omega)
    have hquo : binV .quo (.int .i64 (k : Int)) (.int .i64 2) = some (.int .i64 ((k / 2 : Nat) : Int)) := by
      rw [bin_quo _ _ _ (by omega), d2, hq]
    have hrem2 : binV .rem (.int .i64 (k : Int)) (.int .i64 2) = some (.int .i64 ((k % 2 : Nat) : Int)) := by
      rw [bin_rem _ _ _ (by omega), Int.tmod_eq_emod_of_nonneg (by omega)]; rfl
    simp (maxSteps := 300000) (disch := omega) only [gs, gs2, gs3, ↓reduceIte, Nat.reduceEqDiff, Nat.mul_one, Nat.add_zero, Nat.zero_add, Nat.zero_mul, Int.toNat_natCast, Int.reduceToNat, Nat.reduceMul, Nat.reduceAdd, decide_true, decide_false, Bool.not_true, Bool.not_false, true_and, and_true, List.map_cons, List.map_nil, List.nil_append, List.cons_append, List.append_nil, Option.map_some, Option.bind_some, List.getElem?_cons_zero, List.getElem?_cons_succ, Bool.false_eq_true, not_true_eq_false, not_false_eq_true, List.contains_cons, List.contains_nil, Nat.reduceBEq, Bool.true_or, Bool.false_or, Bool.or_true, List.set_cons_zero, List.set_cons_succ, List.length_cons, List.length_nil, isLd, Bool.true_and, Bool.false_and, Bool.and_true, Bool.and_false, e0, e1, e2, e7, hk0, hrem2]
    by_cases ho : k % 2 = 1
    · rw [if_pos ho] at hh
      simp (maxSteps := 300000) (disch := omega) only [gs, gs2, gs3, ↓reduceIte, Nat.reduceEqDiff, Nat.mul_one, Nat.add_zero, Nat.zero_add, Nat.zero_mul, Int.toNat_natCast, Int.reduceToNat, Nat.reduceMul, Nat.reduceAdd, decide_true, decide_false, Bool.not_true, Bool.not_false, true_and, and_true, List.map_cons, List.map_nil, List.nil_append, List.cons_append, List.append_nil, Option.map_some, Option.bind_some, List.getElem?_cons_zero, List.getElem?_cons_succ, Bool.false_eq_true, not_true_eq_false, not_false_eq_true, List.contains_cons, List.contains_nil, Nat.reduceBEq, Bool.true_or, Bool.false_or, Bool.or_true, List.set_cons_zero, List.set_cons_succ, List.length_cons, List.length_nil, isLd, Bool.true_and, Bool.false_and, Bool.and_true, Bool.and_false, e0, e1, e2, e7, show (((k % 2 : Nat) : Int) = 1) = True from eq_true (by omega), w1, w2, hrem, r1, r2, hquo]
      exact ⟨k / 2, by omega, G, Sub.refl _, k / 2, b * b % p, acc * b % p, rfl, rfl, rfl, rfl, by omega, rfl, ⟨by omega, by omega⟩, ⟨by omega, by omega⟩, hh.trans he⟩
    · rw [if_neg ho] at hh
      simp (maxSteps := 300000) (disch := omega) only [gs, gs2, gs3, ↓reduceIte, Nat.reduceEqDiff, Nat.mul_one, Nat.add_zero, Nat.zero_add, Nat.zero_mul, Int.toNat_natCast, Int.reduceToNat, Nat.reduceMul, Nat.reduceAdd, decide_true, decide_false, Bool.not_true, Bool.not_false, true_and, and_true, List.map_cons, List.map_nil, List.nil_append, List.cons_append, List.append_nil, Option.map_some, Option.bind_some, List.getElem?_cons_zero, List.getElem?_cons_succ, Bool.false_eq_true, not_true_eq_false, not_false_eq_true, List.contains_cons, List.contains_nil, Nat.reduceBEq, Bool.true_or, Bool.false_or, Bool.or_true, List.set_cons_zero, List.set_cons_succ, List.length_cons, List.length_nil, isLd, Bool.true_and, Bool.false_and, Bool.and_true, Bool.and_false, e0, e1, e2, e7, show (((k % 2 : Nat) : Int) = 1) = False from eq_false (by omega), w1, w2, hrem, r1, r2, hquo]
      exact ⟨k / 2, by omega, G, Sub.refl _, k / 2, b * b % p, acc, rfl, rfl, rfl, rfl, by omega, rfl, ⟨by omega, by omega⟩, ⟨by omega, by omega⟩, hh.trans he⟩
  · simp (maxSteps := 300000) (disch := omega) only [gs, gs2, gs3, ↓reduceIte, Nat.reduceEqDiff, Nat.mul_one, Nat.add_zero, Nat.zero_add, Nat.zero_mul, Int.toNat_natCast, Int.reduceToNat, Nat.reduceMul, Nat.reduceAdd, decide_true, decide_false, Bool.not_true, Bool.not_false, true_and, and_true, List.map_cons, List.map_nil, List.nil_append, List.cons_append, List.append_nil, Option.map_some, Option.bind_some, List.getElem?_cons_zero, List.getElem?_cons_succ, Bool.false_eq_true, not_true_eq_false, not_false_eq_true, List.contains_cons, List.contains_nil, Nat.reduceBEq, Bool.true_or, Bool.false_or, Bool.or_true, List.set_cons_zero, List.set_cons_succ, List.length_cons, List.length_nil, isLd, Bool.true_and, Bool.false_and, Bool.and_true, Bool.and_false, e0, e1, e2, e7, hk0]
    obtain rfl : k = 0 := by omega
    have hr := pw_rng (a := a) (p := p) hp.1 n
    have e : acc = pw a p n := by
      rw [show pw b p 0 = 1 from rfl, Int.mul_one, Int.emod_eq_of_lt hacc.1 hacc.2, Int.emod_eq_of_lt hr.1 hr.2] at he
      exact he
    rw [e]; exact hk
theorem impl_inverseOf_ok {a p : Int} (ha : 0 ≤ a ∧ a ≤ 2 ^ 31) (hp : 1 < p ∧ p ≤ 2 ^ 31) {G : GH} {K : Value → GH → Prop} (hk : K (.int .i64 (invF a p)) G) : GC Try.prog 236 [.int .i64 a, .int .i64 p] G K := by
  refine c_impl_inverseOf_i (by simp) ?_
  simp (maxSteps := 300000) (disch := omega) only [gs, gs2, gs3, ↓reduceIte, Nat.reduceEqDiff, Nat.mul_one, Nat.add_zero, Nat.zero_add, Nat.zero_mul, Int.toNat_natCast, Int.reduceToNat, Nat.reduceMul, Nat.reduceAdd, decide_true, decide_false, Bool.not_true, Bool.not_false, true_and, and_true, List.map_cons, List.map_nil, List.nil_append, List.cons_append, List.append_nil, Option.map_some, Option.bind_some, List.getElem?_cons_zero, List.getElem?_cons_succ, Bool.false_eq_true, not_true_eq_false, not_false_eq_true, List.contains_cons, List.contains_nil, Nat.reduceBEq, Bool.true_or, Bool.false_or, Bool.or_true, List.set_cons_zero, List.set_cons_succ, List.length_cons, List.length_nil, isLd, Bool.true_and, Bool.false_and, Bool.and_true, Bool.and_false]
  have e : p - 2 = ((p - 2).toNat : Int) := by omega
  rw [e]
  refine impl_powerOf_ok ha hp (by omega) ?_
  simp (maxSteps := 300000) (disch := omega) only [gs, gs2, gs3, ↓reduceIte, Nat.reduceEqDiff, Nat.mul_one, Nat.add_zero, Nat.zero_add, Nat.zero_mul, Int.toNat_natCast, Int.reduceToNat, Nat.reduceMul, Nat.reduceAdd, decide_true, decide_false, Bool.not_true, Bool.not_false, true_and, and_true, List.map_cons, List.map_nil, List.nil_append, List.cons_append, List.append_nil, Option.map_some, Option.bind_some, List.getElem?_cons_zero, List.getElem?_cons_succ, Bool.false_eq_true, not_true_eq_false, not_false_eq_true, List.contains_cons, List.contains_nil, Nat.reduceBEq, Bool.true_or, Bool.false_or, Bool.or_true, List.set_cons_zero, List.set_cons_succ, List.length_cons, List.length_nil, isLd, Bool.true_and, Bool.false_and, Bool.and_true, Bool.and_false]
  exact hk
theorem impl_addTimes_ok {G : GH} {A B : Option Addr} {ca cb C : Nat} {f g : Int → Int} {k p : Int} (h : IntS G A ca (rowL C f)) (h' : IntS G B cb (rowL C g)) (hp : 1 < p ∧ p ≤ 2 ^ 30) (hk0 : 0 ≤ k ∧ k ≤ p) (hf : ∀ j : Nat, j < C → 0 ≤ f j ∧ f j < p) (hg : ∀ j : Nat, j < C → 0 ≤ g j ∧ g j < p) (hC : C < 2 ^ 20) {K : Value → GH → Prop}
    (hk : ∀ G' A' c', New G G' A' c' ((rowL C fun j => (f j + k * g j) % p).map I64) 1 C → K (.slice A' C c') G') : GC Try.prog 255 [.slice A C ca, .slice B C cb, .int .i64 k, .int .i64 p] G K := by
  refine c_impl_addTimes_i (by simp) ?_
  simp (maxSteps := 300000) (disch := omega) only [gs, gs2, gs3, ↓reduceIte, Nat.reduceEqDiff, Nat.mul_one, Nat.add_zero, Nat.zero_add, Nat.zero_mul, Int.toNat_natCast, Int.reduceToNat, Nat.reduceMul, Nat.reduceAdd, decide_true, decide_false, Bool.not_true, Bool.not_false, true_and, and_true, List.map_cons, List.map_nil, List.nil_append, List.cons_append, List.append_nil, Option.map_some, Option.bind_some, List.getElem?_cons_zero, List.getElem?_cons_succ, Bool.false_eq_true, not_true_eq_false, not_false_eq_true, List.contains_cons, List.contains_nil, Nat.reduceBEq, Bool.true_or, Bool.false_or, Bool.or_true, List.set_cons_zero, List.set_cons_succ, List.length_cons, List.length_nil, isLd, Bool.true_and, Bool.false_and, Bool.and_true, Bool.and_false]
  refine gLoop_intro (fun m T G' => ∃ (j : Nat) (As : Option Addr) (cs : Nat), T 0 = .slice A C ca ∧ T 1 = .slice B C cb ∧ T 2 = .int .i64 k ∧ T 3 = .int .i64 p ∧ T 9 = .slice As j cs ∧ T 12 = .int .i64 C ∧ T 13 = .int .i64 j ∧ m + j = C ∧ j ≤ C ∧ New G G' As cs ((rowL j fun j => (f j + k * g j) % p).map I64) 1 j)
    C ⟨0, none, 0, by simp (maxSteps := 300000) (disch := omega) only [gs, gs2, gs3, ↓reduceIte, Nat.reduceEqDiff, Nat.mul_one, Nat.add_zero, Nat.zero_add, Nat.zero_mul, Int.toNat_natCast, Int.reduceToNat, Nat.reduceMul, Nat.reduceAdd, decide_true, decide_false, Bool.not_true, Bool.not_false, true_and, and_true, List.map_cons, List.map_nil, List.nil_append, List.cons_append, List.append_nil, Option.map_some, Option.bind_some, List.getElem?_cons_zero, List.getElem?_cons_succ, Bool.false_eq_true, not_true_eq_false, not_false_eq_true, List.contains_cons, List.contains_nil, Nat.reduceBEq, Bool.true_or, Bool.false_or, Bool.or_true, List.set_cons_zero, List.set_cons_succ, List.length_cons, List.length_nil, isLd, Bool.true_and, Bool.false_and, Bool.and_true, Bool.and_false], by simp (maxSteps := 300000) (disch := omega) only [gs, gs2, gs3, ↓reduceIte, Nat.reduceEqDiff, Nat.mul_one, Nat.add_zero, Nat.zero_add, Nat.zero_mul, Int.toNat_natCast, Int.reduceToNat, Nat.reduceMul, Nat.reduceAdd, decide_true, decide_false, Bool.not_true, Bool.not_false, true_and, and_true, List.map_cons, List.map_nil, List.nil_append, List.cons_append, List.append_nil, Option.map_some, Option.bind_some, List.getElem?_cons_zero, List.getElem?_cons_succ, Bool.false_eq_true, not_true_eq_false, not_false_eq_true, List.contains_cons, List.contains_nil, Nat.reduceBEq, Bool.true_or, Bool.false_or, Bool.or_true, List.set_cons_zero, List.set_cons_succ, List.length_cons, List.length_nil, isLd, Bool.true_and, Bool.false_and, Bool.and_true, Bool.and_false], by simp (maxSteps := 300000) (disch := omega) only [gs, gs2, gs3, ↓reduceIte, Nat.reduceEqDiff, Nat.mul_one, Nat.add_zero, Nat.zero_add, Nat.zero_mul, Int.toNat_natCast, Int.reduceToNat, Nat.reduceMul, Nat.reduceAdd, decide_true, decide_false, Bool.not_true, Bool.not_false, true_and, and_true, List.map_cons, List.map_nil, List.nil_append, List.cons_append, List.append_nil, Option.map_some, Option.bind_some, List.getElem?_cons_zero, List.getElem?_cons_succ, Bool.false_eq_true, not_true_eq_false, not_false_eq_true, List.contains_cons, List.contains_nil, Nat.reduceBEq, Bool.true_or, Bool.false_or, Bool.or_true, List.set_cons_zero, List.set_cons_succ, List.length_cons, List.length_nil, isLd, Bool.true_and, Bool.false_and, Bool.and_true, Bool.and_false], by simp (maxSteps := 300000) (disch := omega) only [gs, gs2, gs3, ↓reduceIte, Nat.reduceEqDiff, Nat.mul_one, Nat.add_zero, Nat.zero_add, Nat.zero_mul, Int.toNat_natCast, Int.reduceToNat, Nat.reduceMul, Nat.reduceAdd, decide_true, decide_false, Bool.not_true, Bool.not_false, true_and, and_true, List.map_cons, List.map_nil, List.nil_append, List.cons_append, List.append_nil, Option.map_some, Option.bind_some, List.getElem?_cons_zero, List.getElem?_cons_succ, Bool.false_eq_true, not_true_eq_false, not_false_eq_true, List.contains_cons, List.contains_nil, Nat.reduceBEq, Bool.true_or, Bool.false_or, Bool.or_true, List.set_cons_zero, List.set_cons_succ, List.length_cons, List.length_nil, isLd, Bool.true_and, Bool.false_and, Bool.and_true, Bool.and_false], by simp (maxSteps := 300000) (disch := omega) only [gs, gs2, gs3, ↓reduceIte, Nat.reduceEqDiff, Nat.mul_one, Nat.add_zero, Nat.zero_add, Nat.zero_mul, Int.toNat_natCast, Int.reduceToNat, Nat.reduceMul, Nat.reduceAdd, decide_true, decide_false, Bool.not_true, Bool.not_false, true_and, and_true, List.map_cons, List.map_nil, List.nil_append, List.cons_append, List.append_nil, Option.map_some, Option.bind_some, List.getElem?_cons_zero, List.getElem?_cons_succ, Bool.false_eq_true, not_true_eq_false, not_false_eq_true, List.contains_cons, List.contains_nil, Nat.reduceBEq, Bool.true_or, Bool.false_or, Bool.or_true, List.set_cons_zero, List.set_cons_succ, List.length_cons, List.length_nil, isLd, Bool.true_and, Bool.false_and, Bool.and_true, Bool.and_false], by simp (maxSteps := 300000) (disch := omega) only [gs, gs2, gs3, ↓reduceIte, Nat.reduceEqDiff, Nat.mul_one, Nat.add_zero, Nat.zero_add, Nat.zero_mul, Int.toNat_natCast, Int.reduceToNat, Nat.reduceMul, Nat.reduceAdd, decide_true, decide_false, Bool.not_true, Bool.not_false, true_and, and_true, List.map_cons, List.map_nil, List.nil_append, List.cons_append, List.append_nil, Option.map_some, Option.bind_some, List.getElem?_cons_zero, List.getElem?_cons_succ, Bool.false_eq_true, not_true_eq_false, not_false_eq_true, List.contains_cons, List.contains_nil, Nat.reduceBEq, Bool.true_or, Bool.false_or, Bool.or_true, List.set_cons_zero, List.set_cons_succ, List.length_cons, List.length_nil, isLd, Bool.true_and, Bool.false_and, Bool.and_true, Bool.and_false], by simp (maxSteps := 300000) (disch := omega) only [gs, gs2, gs3, ↓reduceIte, Nat.reduceEqDiff, Nat.mul_one, Nat.add_zero, Nat.zero_add, Nat.zero_mul, Int.toNat_natCast, Int.reduceToNat, Nat.reduceMul, Nat.reduceAdd, decide_true, decide_false, Bool.not_true, Bool.not_false, true_and, and_true, List.map_cons, List.map_nil, List.nil_append, List.cons_append, List.append_nil, Option.map_some, Option.bind_some, List.getElem?_cons_zero, List.getElem?_cons_succ, Bool.false_eq_true, not_true_eq_false, not_false_eq_true, List.contains_cons, List.contains_nil, Nat.reduceBEq, Bool.true_or, Bool.false_or, Bool.or_true, List.set_cons_zero, List.set_cons_succ, List.length_cons, List.length_nil, isLd, Bool.true_and, Bool.false_and, Bool.and_true, Bool.and_false] <;> rfl, by omega, by omega, New.nil _ _⟩ ?_
  rintro m T G' ⟨j, As, cs, e0, e1, e2, e3, e9, e12, e13, hm, hj, hN⟩
  simp (maxSteps := 300000) (disch := omega) only [gs, gs2, gs3, ↓reduceIte, Nat.reduceEqDiff, Nat.mul_one, Nat.add_zero, Nat.zero_add, Nat.zero_mul, Int.toNat_natCast, Int.reduceToNat, Nat.reduceMul, Nat.reduceAdd, decide_true, decide_false, Bool.not_true, Bool.not_false, true_and, and_true, List.map_cons, List.map_nil, List.nil_append, List.cons_append, List.append_nil, Option.map_some, Option.bind_some, List.getElem?_cons_zero, List.getElem?_cons_succ, Bool.false_eq_true, not_true_eq_false, not_false_eq_true, List.contains_cons, List.contains_nil, Nat.reduceBEq, Bool.true_or, Bool.false_or, Bool.or_true, List.set_cons_zero, List.set_cons_succ, List.length_cons, List.length_nil, isLd, Bool.true_and, Bool.false_and, Bool.and_true, Bool.and_false, e0, e1, e2, e3, e9, e12, e13]
  by_cases hjj : (j : Int) < C
  · have r1 := (h.sub hN.sub).rd j (by rw [rowL_len]; omega)
    have r2 := (h'.sub hN.sub).rd j (by rw [rowL_len]; omega)
    have sA := h.sn (by rw [rowL_len]; omega)
    have sB := h'.sn (by rw [rowL_len]; omega)
    rw [rowL_get _ (by omega)] at r1 r2
    have b1 := hf j (by omega)
    have b2 := hg j (by omega)
    have hmm := mulB (a := k) (b := g j) (A := 2 ^ 30) (B := 2 ^ 30) (by omega) (by omega)
    have hnn : 0 ≤ k * g j := Int.mul_nonneg hk0.1 b2.1
    have w1 := w64 (k * g j) (by omega) (by omega)
    have w2 := w64 (f j + k * g j) (by omega) (by omega)
    have hr : (f j + k * g j).tmod p = (f j + k * g j) % p := Int.tmod_eq_emod_of_nonneg (by omega)
    have q1 := Int.emod_nonneg (f j + k * g j) (show p ≠ 0 by omega)
    have hrem := fun x : Int => bin_rem .i64 x p (by omega)
    simp (maxSteps := 300000) (disch := omega) only [gs, gs2, gs3, ↓reduceIte, Nat.reduceEqDiff, Nat.mul_one, Nat.add_zero, Nat.zero_add, Nat.zero_mul, Int.toNat_natCast, Int.reduceToNat, Nat.reduceMul, Nat.reduceAdd, decide_true, decide_false, Bool.not_true, Bool.not_false, true_and, and_true, List.map_cons, List.map_nil, List.nil_append, List.cons_append, List.append_nil, Option.map_some, Option.bind_some, List.getElem?_cons_zero, List.getElem?_cons_succ, Bool.false_eq_true, not_true_eq_false, not_false_eq_true, List.contains_cons, List.contains_nil, Nat.reduceBEq, Bool.true_or, Bool.false_or, Bool.or_true, List.set_cons_zero, List.set_cons_succ, List.length_cons, List.length_nil, isLd, Bool.true_and, Bool.false_and, Bool.and_true, Bool.and_false, e0, e1, e2, e3, e9, e12, e13, hjj, r1, r2, w1, w2, hrem, hr, gBs]
    refine ⟨by intro v hv; simp at hv; subst hv; rfl, fun b hb => ?_⟩
    refine ⟨⟨rd_sub (Sub.put hb _) r2, rd_sub (Sub.put hb _) r1⟩, ?_⟩
    refine ap_new hN (Sub.put hb _) (cells_one [.int .i64 ((f j + k * g j) % p)] true) (by rfl) (by intro v hv; simp at hv; subst hv; rfl) rfl (by omega) (by omega) (by omega) fun G'' A' c' hN' => ?_
    simp (maxSteps := 300000) (disch := omega) only [gs, gs2, gs3, ↓reduceIte, Nat.reduceEqDiff, Nat.mul_one, Nat.add_zero, Nat.zero_add, Nat.zero_mul, Int.toNat_natCast, Int.reduceToNat, Nat.reduceMul, Nat.reduceAdd, decide_true, decide_false, Bool.not_true, Bool.not_false, true_and, and_true, List.map_cons, List.map_nil, List.nil_append, List.cons_append, List.append_nil, Option.map_some, Option.bind_some, List.getElem?_cons_zero, List.getElem?_cons_succ, Bool.false_eq_true, not_true_eq_false, not_false_eq_true, List.contains_cons, List.contains_nil, Nat.reduceBEq, Bool.true_or, Bool.false_or, Bool.or_true, List.set_cons_zero, List.set_cons_succ, List.length_cons, List.length_nil, isLd, Bool.true_and, Bool.false_and, Bool.and_true, Bool.and_false, e0, e1, e2, e3, e9, e12, e13]
    have r1' := (h.sub hN'.sub).rd j (by rw [rowL_len]; omega)
    have r2' := (h'.sub hN'.sub).rd j (by rw [rowL_len]; omega)
    rw [rowL_get _ (by omega)] at r1' r2'
    exact ⟨⟨r2', r1'⟩, m - 1, by omega, _, Sub.refl _, j + 1, A', c', rfl, rfl, by omega, by omega, hN'.cast (by rw [rowL_succ]; simp [I64]) rfl⟩
  · simp (maxSteps := 300000) (disch := omega) only [gs, gs2, gs3, ↓reduceIte, Nat.reduceEqDiff, Nat.mul_one, Nat.add_zero, Nat.zero_add, Nat.zero_mul, Int.toNat_natCast, Int.reduceToNat, Nat.reduceMul, Nat.reduceAdd, decide_true, decide_false, Bool.not_true, Bool.not_false, true_and, and_true, List.map_cons, List.map_nil, List.nil_append, List.cons_append, List.append_nil, Option.map_some, Option.bind_some, List.getElem?_cons_zero, List.getElem?_cons_succ, Bool.false_eq_true, not_true_eq_false, not_false_eq_true, List.contains_cons, List.contains_nil, Nat.reduceBEq, Bool.true_or, Bool.false_or, Bool.or_true, List.set_cons_zero, List.set_cons_succ, List.length_cons, List.length_nil, isLd, Bool.true_and, Bool.false_and, Bool.and_true, Bool.and_false, e0, e1, e2, e3, e9, e12, e13, hjj]
    obtain rfl : j = C := by omega
    exact hk _ _ _ hN
theorem slices_IndexFuncS_ok {H G : GH} {b : Nat} {A : Nat → Option Addr} {c : Nat → Nat} {R C : Nat} {f : Int → Int → Int} {rest : List Value} {Z : Option Addr} {F : Value} {Y : Option Addr} {t d : Nat} {col : Int} (h : Rw H G b A c R C f rest Z) (hY : t < R → Y = some ⟨b, t, none⟩) (ht : t ≤ R) (hR : R < 2 ^ 20)
    (hF : ∀ i, i < R → ∀ K : Value → GH → Prop, K (.bool (decide (f i col ≠ 0))) G → gCl Try.prog F [.slice (A i) C (c i)] G K) {K : Value → GH → Prop}
    (h0 : (∀ j : Nat, t ≤ j → j < R → f j col = 0) → K (.int .i64 (-1)) G) (h1 : ∀ i : Nat, t ≤ i → i < R → f i col ≠ 0 → (∀ j : Nat, t ≤ j → j < i → f j col = 0) → K (.int .i64 ((i - t : Nat) : Int)) G) :
    GC Try.prog 253 [.slice Y (R - t) d, F] G K := by
  refine c_slices_IndexFunc_SS_int64_int64_i (by simp) ?_
  simp (maxSteps := 300000) (disch := omega) only [gs, gs2, gs3, ↓reduceIte, Nat.reduceEqDiff, Nat.mul_one, Nat.add_zero, Nat.zero_add, Nat.zero_mul, Int.toNat_natCast, Int.reduceToNat, Nat.reduceMul, Nat.reduceAdd, decide_true, decide_false, Bool.not_true, Bool.not_false, true_and, and_true, List.map_cons, List.map_nil, List.nil_append, List.cons_append, List.append_nil, Option.map_some, Option.bind_some, List.getElem?_cons_zero, List.getElem?_cons_succ, Bool.false_eq_true, not_true_eq_false, not_false_eq_true, List.contains_cons, List.contains_nil, Nat.reduceBEq, Bool.true_or, Bool.false_or, Bool.or_true, List.set_cons_zero, List.set_cons_succ, List.length_cons, List.length_nil, isLd, Bool.true_and, Bool.false_and, Bool.and_true, Bool.and_false]
  refine gLoop_intro (fun m T G' => ∃ k : Nat, T 0 = .slice Y (R - t) d ∧ T 1 = F ∧ T 7 = .int .i64 ((R - t : Nat) : Int) ∧ T 8 = .int .i64 k ∧ m + k = R - t ∧ k ≤ R - t ∧ G = G' ∧ ∀ j : Nat, t ≤ j → j < t + k → f j col = 0)
    (R - t) ⟨0, by simp (maxSteps := 300000) (disch := omega) only [gs, gs2, gs3, ↓reduceIte, Nat.reduceEqDiff, Nat.mul_one, Nat.add_zero, Nat.zero_add, Nat.zero_mul, Int.toNat_natCast, Int.reduceToNat, Nat.reduceMul, Nat.reduceAdd, decide_true, decide_false, Bool.not_true, Bool.not_false, true_and, and_true, List.map_cons, List.map_nil, List.nil_append, List.cons_append, List.append_nil, Option.map_some, Option.bind_some, List.getElem?_cons_zero, List.getElem?_cons_succ, Bool.false_eq_true, not_true_eq_false, not_false_eq_true, List.contains_cons, List.contains_nil, Nat.reduceBEq, Bool.true_or, Bool.false_or, Bool.or_true, List.set_cons_zero, List.set_cons_succ, List.length_cons, List.length_nil, isLd, Bool.true_and, Bool.false_and, Bool.and_true, Bool.and_false], by simp (maxSteps := 300000) (disch := omega) only [gs, gs2, gs3, ↓reduceIte, Nat.reduceEqDiff, Nat.mul_one, Nat.add_zero, Nat.zero_add, Nat.zero_mul, Int.toNat_natCast, Int.reduceToNat, Nat.reduceMul, Nat.reduceAdd, decide_true, decide_false, Bool.not_true, Bool.not_false, true_and, and_true, List.map_cons, List.map_nil, List.nil_append, List.cons_append, List.append_nil, Option.map_some, Option.bind_some, List.getElem?_cons_zero, List.getElem?_cons_succ, Bool.false_eq_true, not_true_eq_false, not_false_eq_true, List.contains_cons, List.contains_nil, Nat.reduceBEq, Bool.true_or, Bool.false_or, Bool.or_true, List.set_cons_zero, List.set_cons_succ, List.length_cons, List.length_nil, isLd, Bool.true_and, Bool.false_and, Bool.and_true, Bool.and_false], by simp (maxSteps := 300000) (disch := omega) only [gs, gs2, gs3, ↓reduceIte, Nat.reduceEqDiff, Nat.mul_one, Nat.add_zero, Nat.zero_add, Nat.zero_mul, Int.toNat_natCast, Int.reduceToNat, Nat.reduceMul, Nat.reduceAdd, decide_true, decide_false, Bool.not_true, Bool.not_false, true_and, and_true, List.map_cons, List.map_nil, List.nil_append, List.cons_append, List.append_nil, Option.map_some, Option.bind_some, List.getElem?_cons_zero, List.getElem?_cons_succ, Bool.false_eq_true, not_true_eq_false, not_false_eq_true, List.contains_cons, List.contains_nil, Nat.reduceBEq, Bool.true_or, Bool.false_or, Bool.or_true, List.set_cons_zero, List.set_cons_succ, List.length_cons, List.length_nil, isLd, Bool.true_and, Bool.false_and, Bool.and_true, Bool.and_false], by simp (maxSteps := 300000) (disch := omega) only [gs, gs2, gs3, ↓reduceIte, Nat.reduceEqDiff, Nat.mul_one, Nat.add_zero, Nat.zero_add, Nat.zero_mul, Int.toNat_natCast, Int.reduceToNat, Nat.reduceMul, Nat.reduceAdd, decide_true, decide_false, Bool.not_true, Bool.not_false, true_and, and_true, List.map_cons, List.map_nil, List.nil_append, List.cons_append, List.append_nil, Option.map_some, Option.bind_some, List.getElem?_cons_zero, List.getElem?_cons_succ, Bool.false_eq_true, not_true_eq_false, not_false_eq_true, List.contains_cons, List.contains_nil, Nat.reduceBEq, Bool.true_or, Bool.false_or, Bool.or_true, List.set_cons_zero, List.set_cons_succ, List.length_cons, List.length_nil, isLd, Bool.true_and, Bool.false_and, Bool.and_true, Bool.and_false] <;> rfl, by omega, by omega, rfl, fun j h1 h2 => by omega⟩ ?_
  rintro m T G' ⟨k, e0, e1, e7, e8, hm, hk, rfl, hz⟩
  simp (maxSteps := 300000) (disch := omega) only [gs, gs2, gs3, ↓reduceIte, Nat.reduceEqDiff, Nat.mul_one, Nat.add_zero, Nat.zero_add, Nat.zero_mul, Int.toNat_natCast, Int.reduceToNat, Nat.reduceMul, Nat.reduceAdd, decide_true, decide_false, Bool.not_true, Bool.not_false, true_and, and_true, List.map_cons, List.map_nil, List.nil_append, List.cons_append, List.append_nil, Option.map_some, Option.bind_some, List.getElem?_cons_zero, List.getElem?_cons_succ, Bool.false_eq_true, not_true_eq_false, not_false_eq_true, List.contains_cons, List.contains_nil, Nat.reduceBEq, Bool.true_or, Bool.false_or, Bool.or_true, List.set_cons_zero, List.set_cons_succ, List.length_cons, List.length_nil, isLd, Bool.true_and, Bool.false_and, Bool.and_true, Bool.and_false, e0, e1, e7, e8]
  by_cases hkk : (k : Int) < ((R - t : Nat) : Int)
  · have hr := h.get (i := t + k) (by omega)
    rw [hY (by omega)] at e0
    simp (maxSteps := 300000) (disch := omega) only [gs, gs2, gs3, ↓reduceIte, Nat.reduceEqDiff, Nat.mul_one, Nat.add_zero, Nat.zero_add, Nat.zero_mul, Int.toNat_natCast, Int.reduceToNat, Nat.reduceMul, Nat.reduceAdd, decide_true, decide_false, Bool.not_true, Bool.not_false, true_and, and_true, List.map_cons, List.map_nil, List.nil_append, List.cons_append, List.append_nil, Option.map_some, Option.bind_some, List.getElem?_cons_zero, List.getElem?_cons_succ, Bool.false_eq_true, not_true_eq_false, not_false_eq_true, List.contains_cons, List.contains_nil, Nat.reduceBEq, Bool.true_or, Bool.false_or, Bool.or_true, List.set_cons_zero, List.set_cons_succ, List.length_cons, List.length_nil, isLd, Bool.true_and, Bool.false_and, Bool.and_true, Bool.and_false, e0, e1, e7, e8, hkk, hr]
    refine hF (t + k) (by omega) _ ?_
    by_cases g : f ((t + k : Nat) : Int) col = 0
    · rw [decide_eq_false (fun x => x g)]
      simp (maxSteps := 300000) (disch := omega) only [gs, gs2, gs3, ↓reduceIte, Nat.reduceEqDiff, Nat.mul_one, Nat.add_zero, Nat.zero_add, Nat.zero_mul, Int.toNat_natCast, Int.reduceToNat, Nat.reduceMul, Nat.reduceAdd, decide_true, decide_false, Bool.not_true, Bool.not_false, true_and, and_true, List.map_cons, List.map_nil, List.nil_append, List.cons_append, List.append_nil, Option.map_some, Option.bind_some, List.getElem?_cons_zero, List.getElem?_cons_succ, Bool.false_eq_true, not_true_eq_false, not_false_eq_true, List.contains_cons, List.contains_nil, Nat.reduceBEq, Bool.true_or, Bool.false_or, Bool.or_true, List.set_cons_zero, List.set_cons_succ, List.length_cons, List.length_nil, isLd, Bool.true_and, Bool.false_and, Bool.and_true, Bool.and_false, e0, e1, e7, e8]
      exact ⟨m - 1, by omega, G, Sub.refl _, k + 1, by rw [hY (by omega)], rfl, by omega, by omega, rfl, fun j a1 a2 => by
        by_cases e : j = t + k
        · rw [e]; exact g
        · exact hz j a1 (by omega)⟩
    · rw [decide_eq_true g]
      simp (maxSteps := 300000) (disch := omega) only [gs, gs2, gs3, ↓reduceIte, Nat.reduceEqDiff, Nat.mul_one, Nat.add_zero, Nat.zero_add, Nat.zero_mul, Int.toNat_natCast, Int.reduceToNat, Nat.reduceMul, Nat.reduceAdd, decide_true, decide_false, Bool.not_true, Bool.not_false, true_and, and_true, List.map_cons, List.map_nil, List.nil_append, List.cons_append, List.append_nil, Option.map_some, Option.bind_some, List.getElem?_cons_zero, List.getElem?_cons_succ, Bool.false_eq_true, not_true_eq_false, not_false_eq_true, List.contains_cons, List.contains_nil, Nat.reduceBEq, Bool.true_or, Bool.false_or, Bool.or_true, List.set_cons_zero, List.set_cons_succ, List.length_cons, List.length_nil, isLd, Bool.true_and, Bool.false_and, Bool.and_true, Bool.and_false, e0, e1, e7, e8]
      have := h1 (t + k) (by omega) (by omega) g (fun j a1 a2 => hz j a1 a2)
      rwa [show t + k - t = k by omega] at this
  · simp (maxSteps := 300000) (disch := omega) only [gs, gs2, gs3, ↓reduceIte, Nat.reduceEqDiff, Nat.mul_one, Nat.add_zero, Nat.zero_add, Nat.zero_mul, Int.toNat_natCast, Int.reduceToNat, Nat.reduceMul, Nat.reduceAdd, decide_true, decide_false, Bool.not_true, Bool.not_false, true_and, and_true, List.map_cons, List.map_nil, List.nil_append, List.cons_append, List.append_nil, Option.map_some, Option.bind_some, List.getElem?_cons_zero, List.getElem?_cons_succ, Bool.false_eq_true, not_true_eq_false, not_false_eq_true, List.contains_cons, List.contains_nil, Nat.reduceBEq, Bool.true_or, Bool.false_or, Bool.or_true, List.set_cons_zero, List.set_cons_succ, List.length_cons, List.length_nil, isLd, Bool.true_and, Bool.false_and, Bool.and_true, Bool.and_false, e0, e1, e7, e8, hkk]
    exact h0 fun j a1 a2 => hz j a1 (by omega)
theorem setr_scl (f : Int → Int → Int) (t k p : Int) : scl f t k p = setr f t (fun j => (f t j * k) % p) := by
  funext i j; unfold scl setr; by_cases h : i = t
  · rw [if_pos h, if_pos h]
  · rw [if_neg h, if_neg h]
theorem sl_top {b R t cp : Nat} (ht : t ≤ R) (hR : R ≤ cp) : slV 1 (.slice (some ⟨b, 0, none⟩) R cp) (some (.int .i64 (t : Int))) none = some (if cp = t then .slice (some ⟨b, 0, none⟩) (R - t) (cp - t) else .slice (some ⟨b, t, none⟩) (R - t) (cp - t)) := by
  simp only [slV, onSl, bndV, onInt, Option.bind_some]
  rw [if_pos ⟨by omega, by omega⟩]
  simp only [Option.bind_some, Int.toNat_natCast]
  rw [if_pos ht]
  split <;> simp [pa_mk]
/-- some temporaries are as they were. -/
def SameE (T' T : Nat → Value) : Prop := ∀ t, t = 0 ∨ t = 1 ∨ t = 2 ∨ t = 8 ∨ t = 9 ∨ t = 10 ∨ t = 11 ∨ t = 16 ∨ t = 17 → T' t = T t
theorem SameE.upd {T' T : Nat → Value} (h : SameE T' T) {n : Nat} (v : Value) (hn : 17 < n ∨ n = 12 ∨ n = 13 ∨ n = 14 ∨ n = 15) : SameE (Gh.upd T' n v) T := fun t ht => by
  rw [upd_app, if_neg (by omega)]; exact h t ht
/-- the first rows are cleared. -/
def clrN (f : Int → Int → Int) (t k p : Int) (i : Nat) : Int → Int → Int := fun a => if a < i then clr f t k p a else f a
theorem clrN_t (f : Int → Int → Int) (t k p : Int) (i : Nat) : clrN f t k p i t = f t := by
  unfold clrN; split
  · funext j; unfold clr; rw [if_pos rfl]
  · rfl
theorem el_l0 {D G : GH} {b b10 cp t k : Nat} {A : Nat → Option Addr} {c : Nat → Nat} {R C : Nat} {h : Int → Int → Int} {rest : List Value} {Z : Option Addr} {p : Int} {T : Nat → Value} {Q : Cont} (hw : Rw D G b A c R C h rest Z) (hbz : ∀ a, Z = some a → a.block ≠ b) (hZ : ∀ a, Z = some a → ∃ e, D a.block = some e) (hR : R < 2 ^ 10) (hC : C < 2 ^ 10) (hr : Rng h p) (hp : 1 < p ∧ p ≤ 2 ^ 30)
    (ht : t < R) (hk : k < C) (k10 : rd D (some ⟨b10, 0, none⟩) = some (.int .i64 (k : Int)))
    (e0 : T 0 = .slice (some ⟨b, 0, none⟩) R cp) (e2 : T 2 = .int .i64 p) (e10 : T 10 = .pointer (some ⟨b10, 0, none⟩)) (e11 : T 11 = .int .i64 t) (e79 : T 79 = .slice (some ⟨b, 0, none⟩) R cp) (e80 : T 80 = .int .i64 R) (e81 : T 81 = .int .i64 0)
    (hQ : ∀ T' G' A' c', SameE T' T → Rw D G' b A' c' R C (clr h t k p) rest Z → Q (.ex 2) T' G') : gLoop (gW Try.prog c_impl_eliminate_l0) Q T G := by
  refine gLoop_intro (fun m T' G' => ∃ (i : Nat) (A' : Nat → Option Addr) (c' : Nat → Nat), T' 79 = .slice (some ⟨b, 0, none⟩) R cp ∧ T' 80 = .int .i64 R ∧ T' 81 = .int .i64 i ∧ m + i = R ∧ i ≤ R ∧ Rw D G' b A' c' R C (clrN h t k p i) rest Z ∧ SameE T' T)
    R ⟨0, A, c, e79, e80, e81, by omega, by omega, hw.cong fun i j hi hj => by unfold clrN; rw [if_neg (by omega)], fun _ _ => rfl⟩ ?_
  clear e79 e80 e81 hw
  rintro m T' G' ⟨i, A', c', e79, e80, e81, hm, hi, hw, hT⟩
  have e0 : T' 0 = .slice (some ⟨b, 0, none⟩) R cp := (hT 0 (by omega)).trans e0
  have e2 : T' 2 = .int .i64 p := (hT 2 (by omega)).trans e2
  have e10 : T' 10 = .pointer (some ⟨b10, 0, none⟩) := (hT 10 (by omega)).trans e10
  have e11 : T' 11 = .int .i64 t := (hT 11 (by omega)).trans e11
  have q10 := rd_sub hw.sub k10
  simp (maxSteps := 300000) (disch := omega) only [gs, gs2, gs3, ↓reduceIte, Nat.reduceEqDiff, Nat.mul_one, Nat.add_zero, Nat.zero_add, Nat.zero_mul, Int.toNat_natCast, Int.reduceToNat, Nat.reduceMul, Nat.reduceAdd, decide_true, decide_false, Bool.not_true, Bool.not_false, true_and, and_true, List.map_cons, List.map_nil, List.nil_append, List.cons_append, List.append_nil, Option.map_some, Option.bind_some, List.getElem?_cons_zero, List.getElem?_cons_succ, Bool.false_eq_true, not_true_eq_false, not_false_eq_true, List.contains_cons, List.contains_nil, Nat.reduceBEq, Bool.true_or, Bool.false_or, Bool.or_true, List.set_cons_zero, List.set_cons_succ, List.length_cons, List.length_nil, isLd, Bool.true_and, Bool.false_and, Bool.and_true, Bool.and_false, e0, e2, e10, e11, e79, e80, e81]
  by_cases hii : (i : Int) < R
  rotate_left
  · simp (maxSteps := 300000) (disch := omega) only [gs, gs2, gs3, ↓reduceIte, Nat.reduceEqDiff, Nat.mul_one, Nat.add_zero, Nat.zero_add, Nat.zero_mul, Int.toNat_natCast, Int.reduceToNat, Nat.reduceMul, Nat.reduceAdd, decide_true, decide_false, Bool.not_true, Bool.not_false, true_and, and_true, List.map_cons, List.map_nil, List.nil_append, List.cons_append, List.append_nil, Option.map_some, Option.bind_some, List.getElem?_cons_zero, List.getElem?_cons_succ, Bool.false_eq_true, not_true_eq_false, not_false_eq_true, List.contains_cons, List.contains_nil, Nat.reduceBEq, Bool.true_or, Bool.false_or, Bool.or_true, List.set_cons_zero, List.set_cons_succ, List.length_cons, List.length_nil, isLd, Bool.true_and, Bool.false_and, Bool.and_true, Bool.and_false, e0, e2, e10, e11, e79, e80, e81, hii]
    refine hQ _ _ A' c' ?_ (hw.cong fun a j ha hj => by unfold clrN; rw [if_pos (by omega)])
    repeat (first | exact hT | refine SameE.upd ?_ _ (by omega))
  have hgi := hw.get (i := i) (by omega)
  have hgt := hw.get ht
  have hci := hw.cell (i := i) (by omega) hk
  have hri : clrN h t k p i i = h i := by unfold clrN; rw [if_neg (by omega)]
  rw [hri] at hci
  have hsi := hw.sn (i := i) (by omega) (by omega)
  have hst := hw.sn ht (by omega)
  have hbi := hr i k
  simp (maxSteps := 300000) (disch := omega) only [gs, gs2, gs3, ↓reduceIte, Nat.reduceEqDiff, Nat.mul_one, Nat.add_zero, Nat.zero_add, Nat.zero_mul, Int.toNat_natCast, Int.reduceToNat, Nat.reduceMul, Nat.reduceAdd, decide_true, decide_false, Bool.not_true, Bool.not_false, true_and, and_true, List.map_cons, List.map_nil, List.nil_append, List.cons_append, List.append_nil, Option.map_some, Option.bind_some, List.getElem?_cons_zero, List.getElem?_cons_succ, Bool.false_eq_true, not_true_eq_false, not_false_eq_true, List.contains_cons, List.contains_nil, Nat.reduceBEq, Bool.true_or, Bool.false_or, Bool.or_true, List.set_cons_zero, List.set_cons_succ, List.length_cons, List.length_nil, isLd, Bool.true_and, Bool.false_and, Bool.and_true, Bool.and_false, e0, e2, e10, e11, e79, e80, e81, hii, hgi]
  by_cases hit : i = t
  · subst hit
    simp (maxSteps := 300000) (disch := omega) only [gs, gs2, gs3, ↓reduceIte, Nat.reduceEqDiff, Nat.mul_one, Nat.add_zero, Nat.zero_add, Nat.zero_mul, Int.toNat_natCast, Int.reduceToNat, Nat.reduceMul, Nat.reduceAdd, decide_true, decide_false, Bool.not_true, Bool.not_false, true_and, and_true, List.map_cons, List.map_nil, List.nil_append, List.cons_append, List.append_nil, Option.map_some, Option.bind_some, List.getElem?_cons_zero, List.getElem?_cons_succ, Bool.false_eq_true, not_true_eq_false, not_false_eq_true, List.contains_cons, List.contains_nil, Nat.reduceBEq, Bool.true_or, Bool.false_or, Bool.or_true, List.set_cons_zero, List.set_cons_succ, List.length_cons, List.length_nil, isLd, Bool.true_and, Bool.false_and, Bool.and_true, Bool.and_false, e0, e2, e10, e11, e79, e80, e81, hgi]
    refine ⟨m - 1, by omega, G', Sub.refl _, i + 1, A', c', rfl, by omega, by omega, hw.cong fun a j ha hj => ?_, ?_⟩
    · unfold clrN
      by_cases e : a = i
      · subst e
        rw [if_neg (by omega), if_pos (by omega)]; unfold clr; rw [if_pos rfl]
      · by_cases e2 : a < i
        · rw [if_pos (by omega), if_pos (by omega)]
        · rw [if_neg (by omega), if_neg (by omega)]
    · repeat (first | exact hT | refine SameE.upd ?_ _ (by omega))
  simp (maxSteps := 300000) (disch := omega) only [gs, gs2, gs3, ↓reduceIte, Nat.reduceEqDiff, Nat.mul_one, Nat.add_zero, Nat.zero_add, Nat.zero_mul, Int.toNat_natCast, Int.reduceToNat, Nat.reduceMul, Nat.reduceAdd, decide_true, decide_false, Bool.not_true, Bool.not_false, true_and, and_true, List.map_cons, List.map_nil, List.nil_append, List.cons_append, List.append_nil, Option.map_some, Option.bind_some, List.getElem?_cons_zero, List.getElem?_cons_succ, Bool.false_eq_true, not_true_eq_false, not_false_eq_true, List.contains_cons, List.contains_nil, Nat.reduceBEq, Bool.true_or, Bool.false_or, Bool.or_true, List.set_cons_zero, List.set_cons_succ, List.length_cons, List.length_nil, isLd, Bool.true_and, Bool.false_and, Bool.and_true, Bool.and_false, e0, e2, e10, e11, e79, e80, e81, hgi, show ((i : Int) = t) = False from eq_false (by omega), q10, hci]
  by_cases hz : h i k = 0
  · simp (maxSteps := 300000) (disch := omega) only [gs, gs2, gs3, ↓reduceIte, Nat.reduceEqDiff, Nat.mul_one, Nat.add_zero, Nat.zero_add, Nat.zero_mul, Int.toNat_natCast, Int.reduceToNat, Nat.reduceMul, Nat.reduceAdd, decide_true, decide_false, Bool.not_true, Bool.not_false, true_and, and_true, List.map_cons, List.map_nil, List.nil_append, List.cons_append, List.append_nil, Option.map_some, Option.bind_some, List.getElem?_cons_zero, List.getElem?_cons_succ, Bool.false_eq_true, not_true_eq_false, not_false_eq_true, List.contains_cons, List.contains_nil, Nat.reduceBEq, Bool.true_or, Bool.false_or, Bool.or_true, List.set_cons_zero, List.set_cons_succ, List.length_cons, List.length_nil, isLd, Bool.true_and, Bool.false_and, Bool.and_true, Bool.and_false, e0, e2, e10, e11, e79, e80, e81, eq_true hz]
    refine ⟨m - 1, by omega, G', Sub.refl _, i + 1, A', c', rfl, by omega, by omega, hw.cong fun a j ha hj => ?_, ?_⟩
    · unfold clrN
      by_cases e : a = i
      · subst e
        rw [if_neg (by omega), if_pos (by omega)]; unfold clr
        rw [if_neg (by omega), hz, Int.sub_zero, Int.add_mul_emod_self_left, Int.emod_eq_of_lt (hr a j).1 (hr a j).2]
      · by_cases e2 : a < i
        · rw [if_pos (by omega), if_pos (by omega)]
        · rw [if_neg (by omega), if_neg (by omega)]
    · repeat (first | exact hT | refine SameE.upd ?_ _ (by omega))
  simp (maxSteps := 300000) (disch := omega) only [gs, gs2, gs3, ↓reduceIte, Nat.reduceEqDiff, Nat.mul_one, Nat.add_zero, Nat.zero_add, Nat.zero_mul, Int.toNat_natCast, Int.reduceToNat, Nat.reduceMul, Nat.reduceAdd, decide_true, decide_false, Bool.not_true, Bool.not_false, true_and, and_true, List.map_cons, List.map_nil, List.nil_append, List.cons_append, List.append_nil, Option.map_some, Option.bind_some, List.getElem?_cons_zero, List.getElem?_cons_succ, Bool.false_eq_true, not_true_eq_false, not_false_eq_true, List.contains_cons, List.contains_nil, Nat.reduceBEq, Bool.true_or, Bool.false_or, Bool.or_true, List.set_cons_zero, List.set_cons_succ, List.length_cons, List.length_nil, isLd, Bool.true_and, Bool.false_and, Bool.and_true, Bool.and_false, e0, e2, e10, e11, e79, e80, e81, eq_false hz, q10, hci, hgi, hgt]
  have hIi := hw.ints (i := i) (by omega)
  have hIt := hw.ints ht
  rw [hri] at hIi
  rw [clrN_t] at hIt
  refine impl_addTimes_ok (f := h i) (g := h t) hIi hIt hp ⟨by omega, by omega⟩ (fun j _ => hr i j) (fun j _ => hr t j) (by omega) fun G3 A3 c3 hN => ?_
  have hw3 := hw.up hN.sub
  have hrow := New.del (xs := rowL C fun j => (h i j + (p - h i k) * h t j) % p) (hN.cast rfl (rowL_len _ _).symm) hw.blk (Z := Z) (fun a ha => by obtain ⟨e, he⟩ := hZ a ha; exact ⟨e, hw.sub _ _ he⟩)
  simp (maxSteps := 300000) (disch := omega) only [gs, gs2, gs3, ↓reduceIte, Nat.reduceEqDiff, Nat.mul_one, Nat.add_zero, Nat.zero_add, Nat.zero_mul, Int.toNat_natCast, Int.reduceToNat, Nat.reduceMul, Nat.reduceAdd, decide_true, decide_false, Bool.not_true, Bool.not_false, true_and, and_true, List.map_cons, List.map_nil, List.nil_append, List.cons_append, List.append_nil, Option.map_some, Option.bind_some, List.getElem?_cons_zero, List.getElem?_cons_succ, Bool.false_eq_true, not_true_eq_false, not_false_eq_true, List.contains_cons, List.contains_nil, Nat.reduceBEq, Bool.true_or, Bool.false_or, Bool.or_true, List.set_cons_zero, List.set_cons_succ, List.length_cons, List.length_nil, isLd, Bool.true_and, Bool.false_and, Bool.and_true, Bool.and_false, e0, e2, e10, e11, e79, e80, e81]
  refine ⟨⟨rd_sub hN.sub hci, rd_sub hN.sub q10⟩, ?_⟩
  refine hw3.st (by omega) hbz hrow fun G4 hw4 _ _ => ?_
  simp (maxSteps := 300000) (disch := omega) only [gs, gs2, gs3, ↓reduceIte, Nat.reduceEqDiff, Nat.mul_one, Nat.add_zero, Nat.zero_add, Nat.zero_mul, Int.toNat_natCast, Int.reduceToNat, Nat.reduceMul, Nat.reduceAdd, decide_true, decide_false, Bool.not_true, Bool.not_false, true_and, and_true, List.map_cons, List.map_nil, List.nil_append, List.cons_append, List.append_nil, Option.map_some, Option.bind_some, List.getElem?_cons_zero, List.getElem?_cons_succ, Bool.false_eq_true, not_true_eq_false, not_false_eq_true, List.contains_cons, List.contains_nil, Nat.reduceBEq, Bool.true_or, Bool.false_or, Bool.or_true, List.set_cons_zero, List.set_cons_succ, List.length_cons, List.length_nil, isLd, Bool.true_and, Bool.false_and, Bool.and_true, Bool.and_false, e0, e2, e10, e11, e79, e80, e81]
  refine ⟨m - 1, by omega, G4, Sub.refl _, i + 1, _, _, rfl, by omega, by omega, hw4.cong fun a j ha hj => ?_, ?_⟩
  · unfold setr clrN
    by_cases e : a = i
    · subst e
      rw [if_pos rfl, if_pos (by omega)]; unfold clr
      rw [if_neg (by omega)]
    · rw [if_neg (by omega)]
      by_cases e2 : a < i
      · rw [if_pos (by omega), if_pos (by omega)]
      · rw [if_neg (by omega), if_neg (by omega)]
  · repeat (first | exact hT | refine SameE.upd ?_ _ (by omega))
abbrev elTail : GCode := .seq (.dreg c_impl_eliminate_13) (.seq (.reg c_impl_eliminate_14) (.seq (.dtree c_impl_eliminate_15) (.seq (.seq (.reg c_impl_eliminate_16) (.blk 2 (.loop c_impl_eliminate_l0))) (.reg c_impl_eliminate_23))))
theorem el_tail {H G : GH} {b b10 cp cq t k : Nat} {A : Nat → Option Addr} {c : Nat → Nat} {Ap : Option Addr} {R C : Nat} {g : Int → Int → Int} {rest : List Value} {p det : Int} {piv : List Int} {T : Nat → Value} {Q : Cont} (h : Rw H G b A c R C g rest Ap) (hR : R < 2 ^ 10) (hC : C < 2 ^ 10) (hr : Rng g p) (hp : 1 < p ∧ p ≤ 2 ^ 30)
    (ht : t < R) (hk : k < C) (hd : 0 ≤ det ∧ det < p) (hl : g t k ≠ 0) (k10 : rd (del G b) (some ⟨b10, 0, none⟩) = some (.int .i64 (k : Int))) (hO : Own G Ap cq (piv.map I64) 1 piv.length) (hOf : Off H Ap) (hda : ∀ a, Ap = some a → a.block ≠ b) (hpl : piv.length < 2 ^ 10)
    (e0 : T 0 = .slice (some ⟨b, 0, none⟩) R cp) (e1 : T 1 = .int .i64 C) (e2 : T 2 = .int .i64 p) (e8 : T 8 = .slice Ap piv.length cq) (e9 : T 9 = .int .i64 det) (e10 : T 10 = .pointer (some ⟨b10, 0, none⟩)) (e11 : T 11 = .int .i64 t) (e16 : T 16 = .int .i64 C) (e17 : T 17 = .int .i64 k)
    (hQ : ∀ T' G' A' c' Ap' cq', T' 0 = .slice (some ⟨b, 0, none⟩) R cp → T' 1 = .int .i64 C → T' 2 = .int .i64 p → T' 8 = .slice Ap' (piv.length + 1) cq' → T' 9 = .int .i64 (det * g t k % p) → T' 16 = .int .i64 C → T' 17 = .int .i64 k →
      Rw H G' b A' c' R C (clr (scl g t (invF (g t k) p) p) t k p) rest Ap' → Own G' Ap' cq' ((piv ++ [(k : Int)]).map I64) 1 (piv.length + 1) → Off H Ap' → (∀ a, Ap' = some a → a.block ≠ b) → Q .nrm T' G') : gW Try.prog elTail Q T G := by
  have q10 := rd_sub (Sub.del _ _) k10
  have hgt := h.get ht
  have hcl := h.cell ht hk
  have hsn := h.sn ht (by omega)
  have hb := hr t k
  have hmm := mulB (a := det) (b := g t k) (A := 2 ^ 30) (B := 2 ^ 30) (by omega) (by omega)
  have hnn : 0 ≤ det * g t k := Int.mul_nonneg hd.1 hb.1
  have w1 := w64 (det * g t k) (by omega) (by omega)
  have hrm : (det * g t k).tmod p = det * g t k % p := Int.tmod_eq_emod_of_nonneg hnn
  have hrem := fun x : Int => bin_rem .i64 x p (by omega)
  simp (maxSteps := 300000) (disch := omega) only [gs, gs2, gs3, ↓reduceIte, Nat.reduceEqDiff, Nat.mul_one, Nat.add_zero, Nat.zero_add, Nat.zero_mul, Int.toNat_natCast, Int.reduceToNat, Nat.reduceMul, Nat.reduceAdd, decide_true, decide_false, Bool.not_true, Bool.not_false, true_and, and_true, List.map_cons, List.map_nil, List.nil_append, List.cons_append, List.append_nil, Option.map_some, Option.bind_some, List.getElem?_cons_zero, List.getElem?_cons_succ, Bool.false_eq_true, not_true_eq_false, not_false_eq_true, List.contains_cons, List.contains_nil, Nat.reduceBEq, Bool.true_or, Bool.false_or, Bool.or_true, List.set_cons_zero, List.set_cons_succ, List.length_cons, List.length_nil, isLd, Bool.true_and, Bool.false_and, Bool.and_true, Bool.and_false, e0, e1, e2, e8, e9, e10, e11, e16, e17, hgt, hcl, q10, w1, hrem, hrm]
  have hz : zc [.int .i64 0] C = (rowL C fun _ => 0).map I64 := by rw [zc_one, rep_range]; unfold rowL; rw [List.map_map]; rfl
  have hgr := h.ints ht
  have hinvb := pw_rng (a := g t k) (p := p) hp.1 (p - 2).toNat
  have key : ∀ (G1 : GH) (bz : Nat), Sub G G1 → IntS G1 (some ⟨bz, 0, none⟩) C (rowL C fun _ => 0) → ∀ {K : Value → GH → Prop}, (∀ G' A' c', New G1 G' A' c' ((rowL C fun j => (g t j * invF (g t k) p) % p).map I64) 1 C → K (.slice A' C c') G') → GC Try.prog 255 [.slice (some ⟨bz, 0, none⟩) C C, .slice (A t) C (c t), .int .i64 (invF (g t k) p), .int .i64 p] G1 K := by
    intro G1 bz s1 hz1 K hK
    refine impl_addTimes_ok (f := fun _ => 0) (g := g t) hz1 (hgr.sub s1) hp ⟨by unfold invF; omega, by unfold invF; omega⟩ (fun j _ => by omega) (fun j _ => hr t j) (by omega) fun G' A' c' hN => hK G' A' c' (hN.cast ?_ rfl)
    congr 1
    exact rowL_congr fun j _ => by rw [Int.zero_add, Int.mul_comm]
  have fin : ∀ (G1 G2 : GH) (A3 : Option Addr) (c3 : Nat) (T' : Nat → Value) (Q' : Cont), Sub G G1 → New G1 G2 A3 c3 ((rowL C fun j => (g t j * invF (g t k) p) % p).map I64) 1 C → SameE T' T → True := fun _ _ _ _ _ _ _ _ _ => trivial
  clear fin
  refine ⟨?_, ?_⟩
  · refine ⟨C, C, rfl, rfl, Nat.le_refl _, by omega, by omega, fun bz hbz => ?_⟩
    rw [hz]
    have sz := Sub.put hbz ⟨(rowL C fun _ => 0).map I64, true⟩
    have hI0 : IntS (put G bz ⟨(rowL C fun _ => 0).map I64, true⟩) (some ⟨bz, 0, none⟩) C (rowL C fun _ => 0) := by
      have := blk_ints (xs := rowL C fun _ => 0) (put_same G bz ⟨(rowL C fun _ => 0).map I64, true⟩)
      rwa [rowL_len] at this
    have hw1 := h.up sz
    have hO1 := hO.sub sz
    have kd1 := rd_sub (sz.del2 b) k10
    have hgt1 := hw1.get ht
    revert sz hI0 hw1 hO1 kd1 hgt1
    generalize put G bz ⟨(rowL C fun _ => 0).map I64, true⟩ = G1
    intro sz hI0 hw1 hO1 kd1 hgt1
    simp (maxSteps := 300000) (disch := omega) only [gs, gs2, gs3, ↓reduceIte, Nat.reduceEqDiff, Nat.mul_one, Nat.add_zero, Nat.zero_add, Nat.zero_mul, Int.toNat_natCast, Int.reduceToNat, Nat.reduceMul, Nat.reduceAdd, decide_true, decide_false, Bool.not_true, Bool.not_false, true_and, and_true, List.map_cons, List.map_nil, List.nil_append, List.cons_append, List.append_nil, Option.map_some, Option.bind_some, List.getElem?_cons_zero, List.getElem?_cons_succ, Bool.false_eq_true, not_true_eq_false, not_false_eq_true, List.contains_cons, List.contains_nil, Nat.reduceBEq, Bool.true_or, Bool.false_or, Bool.or_true, List.set_cons_zero, List.set_cons_succ, List.length_cons, List.length_nil, isLd, Bool.true_and, Bool.false_and, Bool.and_true, Bool.and_false, hgt1]
    refine impl_inverseOf_ok ⟨by omega, by omega⟩ ⟨by omega, by omega⟩ ?_
    simp (maxSteps := 300000) (disch := omega) only [gs, gs2, gs3, ↓reduceIte, Nat.reduceEqDiff, Nat.mul_one, Nat.add_zero, Nat.zero_add, Nat.zero_mul, Int.toNat_natCast, Int.reduceToNat, Nat.reduceMul, Nat.reduceAdd, decide_true, decide_false, Bool.not_true, Bool.not_false, true_and, and_true, List.map_cons, List.map_nil, List.nil_append, List.cons_append, List.append_nil, Option.map_some, Option.bind_some, List.getElem?_cons_zero, List.getElem?_cons_succ, Bool.false_eq_true, not_true_eq_false, not_false_eq_true, List.contains_cons, List.contains_nil, Nat.reduceBEq, Bool.true_or, Bool.false_or, Bool.or_true, List.set_cons_zero, List.set_cons_succ, List.length_cons, List.length_nil, isLd, Bool.true_and, Bool.false_and, Bool.and_true, Bool.and_false, hgt1]
    refine key G1 bz sz hI0 fun G2 A3 c3 hN => ?_
    simp (maxSteps := 300000) (disch := omega) only [gs, gs2, gs3, ↓reduceIte, Nat.reduceEqDiff, Nat.mul_one, Nat.add_zero, Nat.zero_add, Nat.zero_mul, Int.toNat_natCast, Int.reduceToNat, Nat.reduceMul, Nat.reduceAdd, decide_true, decide_false, Bool.not_true, Bool.not_false, true_and, and_true, List.map_cons, List.map_nil, List.nil_append, List.cons_append, List.append_nil, Option.map_some, Option.bind_some, List.getElem?_cons_zero, List.getElem?_cons_succ, Bool.false_eq_true, not_true_eq_false, not_false_eq_true, List.contains_cons, List.contains_nil, Nat.reduceBEq, Bool.true_or, Bool.false_or, Bool.or_true, List.set_cons_zero, List.set_cons_succ, List.length_cons, List.length_nil, isLd, Bool.true_and, Bool.false_and, Bool.and_true, Bool.and_false, e0]
    have hO2 := hO1.sub hN.sub
    have hZ1 : ∀ a, Ap = some a → ∃ e, G1 a.block = some e := fun a ha => by
      rcases hO1 with ⟨h0, _⟩ | ⟨x, r, h0, h1, _⟩
      · rw [h0] at ha; cases ha
      · rw [h0] at ha; cases ha; exact ⟨_, h1⟩
    refine (hw1.up hN.sub).st ht hda (New.del (xs := rowL C fun j => (g t j * invF (g t k) p) % p) (hN.cast rfl (rowL_len _ _).symm) hw1.blk hZ1) fun G3 hw3 hdel _ => ?_
    rw [← setr_scl] at hw3
    have kd3 : rd (del G3 b) (some ⟨b10, 0, none⟩) = some (.int .i64 (k : Int)) := by rw [hdel]; exact rd_sub (hN.sub.del2 b) kd1
    have hO3 : Own G3 Ap cq (piv.map I64) 1 piv.length := (hO2.del hda).sub (by rw [← hdel]; exact Gh.Sub.del _ _)
    have hZ3 : ∀ a, Ap = some a → ∃ e, (del G3 b) a.block = some e := fun a ha => by
      rcases hO3 with ⟨h0, _⟩ | ⟨x, r, h0, h1, _⟩
      · rw [h0] at ha; cases ha
      · have := hda a ha
        rw [h0] at ha; cases ha; exact ⟨_, by rw [del_ne _ this]; exact h1⟩
    simp (maxSteps := 300000) (disch := omega) only [gs, gs2, gs3, ↓reduceIte, Nat.reduceEqDiff, Nat.mul_one, Nat.add_zero, Nat.zero_add, Nat.zero_mul, Int.toNat_natCast, Int.reduceToNat, Nat.reduceMul, Nat.reduceAdd, decide_true, decide_false, Bool.not_true, Bool.not_false, true_and, and_true, List.map_cons, List.map_nil, List.nil_append, List.cons_append, List.append_nil, Option.map_some, Option.bind_some, List.getElem?_cons_zero, List.getElem?_cons_succ, Bool.false_eq_true, not_true_eq_false, not_false_eq_true, List.contains_cons, List.contains_nil, Nat.reduceBEq, Bool.true_or, Bool.false_or, Bool.or_true, List.set_cons_zero, List.set_cons_succ, List.length_cons, List.length_nil, isLd, Bool.true_and, Bool.false_and, Bool.and_true, Bool.and_false, e0]
    refine el_l0 (D := del G3 b) (cp := cp) (h := scl g t (invF (g t k) p) p) (t := t) (k := k) hw3.all hda hZ3 hR hC (hr.scl (by omega) _ _) hp ht hk kd3 (by simp (maxSteps := 300000) (disch := omega) only [gs, gs2, gs3, ↓reduceIte, Nat.reduceEqDiff, Nat.mul_one, Nat.add_zero, Nat.zero_add, Nat.zero_mul, Int.toNat_natCast, Int.reduceToNat, Nat.reduceMul, Nat.reduceAdd, decide_true, decide_false, Bool.not_true, Bool.not_false, true_and, and_true, List.map_cons, List.map_nil, List.nil_append, List.cons_append, List.append_nil, Option.map_some, Option.bind_some, List.getElem?_cons_zero, List.getElem?_cons_succ, Bool.false_eq_true, not_true_eq_false, not_false_eq_true, List.contains_cons, List.contains_nil, Nat.reduceBEq, Bool.true_or, Bool.false_or, Bool.or_true, List.set_cons_zero, List.set_cons_succ, List.length_cons, List.length_nil, isLd, Bool.true_and, Bool.false_and, Bool.and_true, Bool.and_false, e0]) (by simp (maxSteps := 300000) (disch := omega) only [gs, gs2, gs3, ↓reduceIte, Nat.reduceEqDiff, Nat.mul_one, Nat.add_zero, Nat.zero_add, Nat.zero_mul, Int.toNat_natCast, Int.reduceToNat, Nat.reduceMul, Nat.reduceAdd, decide_true, decide_false, Bool.not_true, Bool.not_false, true_and, and_true, List.map_cons, List.map_nil, List.nil_append, List.cons_append, List.append_nil, Option.map_some, Option.bind_some, List.getElem?_cons_zero, List.getElem?_cons_succ, Bool.false_eq_true, not_true_eq_false, not_false_eq_true, List.contains_cons, List.contains_nil, Nat.reduceBEq, Bool.true_or, Bool.false_or, Bool.or_true, List.set_cons_zero, List.set_cons_succ, List.length_cons, List.length_nil, isLd, Bool.true_and, Bool.false_and, Bool.and_true, Bool.and_false, e2]) (by simp (maxSteps := 300000) (disch := omega) only [gs, gs2, gs3, ↓reduceIte, Nat.reduceEqDiff, Nat.mul_one, Nat.add_zero, Nat.zero_add, Nat.zero_mul, Int.toNat_natCast, Int.reduceToNat, Nat.reduceMul, Nat.reduceAdd, decide_true, decide_false, Bool.not_true, Bool.not_false, true_and, and_true, List.map_cons, List.map_nil, List.nil_append, List.cons_append, List.append_nil, Option.map_some, Option.bind_some, List.getElem?_cons_zero, List.getElem?_cons_succ, Bool.false_eq_true, not_true_eq_false, not_false_eq_true, List.contains_cons, List.contains_nil, Nat.reduceBEq, Bool.true_or, Bool.false_or, Bool.or_true, List.set_cons_zero, List.set_cons_succ, List.length_cons, List.length_nil, isLd, Bool.true_and, Bool.false_and, Bool.and_true, Bool.and_false, e10]) (by simp (maxSteps := 300000) (disch := omega) only [gs, gs2, gs3, ↓reduceIte, Nat.reduceEqDiff, Nat.mul_one, Nat.add_zero, Nat.zero_add, Nat.zero_mul, Int.toNat_natCast, Int.reduceToNat, Nat.reduceMul, Nat.reduceAdd, decide_true, decide_false, Bool.not_true, Bool.not_false, true_and, and_true, List.map_cons, List.map_nil, List.nil_append, List.cons_append, List.append_nil, Option.map_some, Option.bind_some, List.getElem?_cons_zero, List.getElem?_cons_succ, Bool.false_eq_true, not_true_eq_false, not_false_eq_true, List.contains_cons, List.contains_nil, Nat.reduceBEq, Bool.true_or, Bool.false_or, Bool.or_true, List.set_cons_zero, List.set_cons_succ, List.length_cons, List.length_nil, isLd, Bool.true_and, Bool.false_and, Bool.and_true, Bool.and_false, e11]) (by simp (maxSteps := 300000) (disch := omega) only [gs, gs2, gs3, ↓reduceIte, Nat.reduceEqDiff, Nat.mul_one, Nat.add_zero, Nat.zero_add, Nat.zero_mul, Int.toNat_natCast, Int.reduceToNat, Nat.reduceMul, Nat.reduceAdd, decide_true, decide_false, Bool.not_true, Bool.not_false, true_and, and_true, List.map_cons, List.map_nil, List.nil_append, List.cons_append, List.append_nil, Option.map_some, Option.bind_some, List.getElem?_cons_zero, List.getElem?_cons_succ, Bool.false_eq_true, not_true_eq_false, not_false_eq_true, List.contains_cons, List.contains_nil, Nat.reduceBEq, Bool.true_or, Bool.false_or, Bool.or_true, List.set_cons_zero, List.set_cons_succ, List.length_cons, List.length_nil, isLd, Bool.true_and, Bool.false_and, Bool.and_true, Bool.and_false, e0]) (by simp (maxSteps := 300000) (disch := omega) only [gs, gs2, gs3, ↓reduceIte, Nat.reduceEqDiff, Nat.mul_one, Nat.add_zero, Nat.zero_add, Nat.zero_mul, Int.toNat_natCast, Int.reduceToNat, Nat.reduceMul, Nat.reduceAdd, decide_true, decide_false, Bool.not_true, Bool.not_false, true_and, and_true, List.map_cons, List.map_nil, List.nil_append, List.cons_append, List.append_nil, Option.map_some, Option.bind_some, List.getElem?_cons_zero, List.getElem?_cons_succ, Bool.false_eq_true, not_true_eq_false, not_false_eq_true, List.contains_cons, List.contains_nil, Nat.reduceBEq, Bool.true_or, Bool.false_or, Bool.or_true, List.set_cons_zero, List.set_cons_succ, List.length_cons, List.length_nil, isLd, Bool.true_and, Bool.false_and, Bool.and_true, Bool.and_false]) (by simp (maxSteps := 300000) (disch := omega) only [gs, gs2, gs3, ↓reduceIte, Nat.reduceEqDiff, Nat.mul_one, Nat.add_zero, Nat.zero_add, Nat.zero_mul, Int.toNat_natCast, Int.reduceToNat, Nat.reduceMul, Nat.reduceAdd, decide_true, decide_false, Bool.not_true, Bool.not_false, true_and, and_true, List.map_cons, List.map_nil, List.nil_append, List.cons_append, List.append_nil, Option.map_some, Option.bind_some, List.getElem?_cons_zero, List.getElem?_cons_succ, Bool.false_eq_true, not_true_eq_false, not_false_eq_true, List.contains_cons, List.contains_nil, Nat.reduceBEq, Bool.true_or, Bool.false_or, Bool.or_true, List.set_cons_zero, List.set_cons_succ, List.length_cons, List.length_nil, isLd, Bool.true_and, Bool.false_and, Bool.and_true, Bool.and_false] <;> rfl) fun T' G4 A' c' hT hw4 => ?_
    have hO4 : Own G4 Ap cq (piv.map I64) 1 piv.length := (hO3.del hda).sub hw4.sub
    have q4 := rd_sub hw4.sub kd3
    have f0 : T' 0 = .slice (some ⟨b, 0, none⟩) R cp := (hT 0 (by omega)).trans (by simp (maxSteps := 300000) (disch := omega) only [gs, gs2, gs3, ↓reduceIte, Nat.reduceEqDiff, Nat.mul_one, Nat.add_zero, Nat.zero_add, Nat.zero_mul, Int.toNat_natCast, Int.reduceToNat, Nat.reduceMul, Nat.reduceAdd, decide_true, decide_false, Bool.not_true, Bool.not_false, true_and, and_true, List.map_cons, List.map_nil, List.nil_append, List.cons_append, List.append_nil, Option.map_some, Option.bind_some, List.getElem?_cons_zero, List.getElem?_cons_succ, Bool.false_eq_true, not_true_eq_false, not_false_eq_true, List.contains_cons, List.contains_nil, Nat.reduceBEq, Bool.true_or, Bool.false_or, Bool.or_true, List.set_cons_zero, List.set_cons_succ, List.length_cons, List.length_nil, isLd, Bool.true_and, Bool.false_and, Bool.and_true, Bool.and_false, e0])
    have f1 : T' 1 = .int .i64 C := (hT 1 (by omega)).trans (by simp (maxSteps := 300000) (disch := omega) only [gs, gs2, gs3, ↓reduceIte, Nat.reduceEqDiff, Nat.mul_one, Nat.add_zero, Nat.zero_add, Nat.zero_mul, Int.toNat_natCast, Int.reduceToNat, Nat.reduceMul, Nat.reduceAdd, decide_true, decide_false, Bool.not_true, Bool.not_false, true_and, and_true, List.map_cons, List.map_nil, List.nil_append, List.cons_append, List.append_nil, Option.map_some, Option.bind_some, List.getElem?_cons_zero, List.getElem?_cons_succ, Bool.false_eq_true, not_true_eq_false, not_false_eq_true, List.contains_cons, List.contains_nil, Nat.reduceBEq, Bool.true_or, Bool.false_or, Bool.or_true, List.set_cons_zero, List.set_cons_succ, List.length_cons, List.length_nil, isLd, Bool.true_and, Bool.false_and, Bool.and_true, Bool.and_false, e1])
    have f2 : T' 2 = .int .i64 p := (hT 2 (by omega)).trans (by simp (maxSteps := 300000) (disch := omega) only [gs, gs2, gs3, ↓reduceIte, Nat.reduceEqDiff, Nat.mul_one, Nat.add_zero, Nat.zero_add, Nat.zero_mul, Int.toNat_natCast, Int.reduceToNat, Nat.reduceMul, Nat.reduceAdd, decide_true, decide_false, Bool.not_true, Bool.not_false, true_and, and_true, List.map_cons, List.map_nil, List.nil_append, List.cons_append, List.append_nil, Option.map_some, Option.bind_some, List.getElem?_cons_zero, List.getElem?_cons_succ, Bool.false_eq_true, not_true_eq_false, not_false_eq_true, List.contains_cons, List.contains_nil, Nat.reduceBEq, Bool.true_or, Bool.false_or, Bool.or_true, List.set_cons_zero, List.set_cons_succ, List.length_cons, List.length_nil, isLd, Bool.true_and, Bool.false_and, Bool.and_true, Bool.and_false, e2])
    have f8 : T' 8 = .slice Ap piv.length cq := (hT 8 (by omega)).trans (by simp (maxSteps := 300000) (disch := omega) only [gs, gs2, gs3, ↓reduceIte, Nat.reduceEqDiff, Nat.mul_one, Nat.add_zero, Nat.zero_add, Nat.zero_mul, Int.toNat_natCast, Int.reduceToNat, Nat.reduceMul, Nat.reduceAdd, decide_true, decide_false, Bool.not_true, Bool.not_false, true_and, and_true, List.map_cons, List.map_nil, List.nil_append, List.cons_append, List.append_nil, Option.map_some, Option.bind_some, List.getElem?_cons_zero, List.getElem?_cons_succ, Bool.false_eq_true, not_true_eq_false, not_false_eq_true, List.contains_cons, List.contains_nil, Nat.reduceBEq, Bool.true_or, Bool.false_or, Bool.or_true, List.set_cons_zero, List.set_cons_succ, List.length_cons, List.length_nil, isLd, Bool.true_and, Bool.false_and, Bool.and_true, Bool.and_false, e8])
    have f9 : T' 9 = .int .i64 (det * g t k % p) := (hT 9 (by omega)).trans (by simp (maxSteps := 300000) (disch := omega) only [gs, gs2, gs3, ↓reduceIte, Nat.reduceEqDiff, Nat.mul_one, Nat.add_zero, Nat.zero_add, Nat.zero_mul, Int.toNat_natCast, Int.reduceToNat, Nat.reduceMul, Nat.reduceAdd, decide_true, decide_false, Bool.not_true, Bool.not_false, true_and, and_true, List.map_cons, List.map_nil, List.nil_append, List.cons_append, List.append_nil, Option.map_some, Option.bind_some, List.getElem?_cons_zero, List.getElem?_cons_succ, Bool.false_eq_true, not_true_eq_false, not_false_eq_true, List.contains_cons, List.contains_nil, Nat.reduceBEq, Bool.true_or, Bool.false_or, Bool.or_true, List.set_cons_zero, List.set_cons_succ, List.length_cons, List.length_nil, isLd, Bool.true_and, Bool.false_and, Bool.and_true, Bool.and_false])
    have f10 : T' 10 = .pointer (some ⟨b10, 0, none⟩) := (hT 10 (by omega)).trans (by simp (maxSteps := 300000) (disch := omega) only [gs, gs2, gs3, ↓reduceIte, Nat.reduceEqDiff, Nat.mul_one, Nat.add_zero, Nat.zero_add, Nat.zero_mul, Int.toNat_natCast, Int.reduceToNat, Nat.reduceMul, Nat.reduceAdd, decide_true, decide_false, Bool.not_true, Bool.not_false, true_and, and_true, List.map_cons, List.map_nil, List.nil_append, List.cons_append, List.append_nil, Option.map_some, Option.bind_some, List.getElem?_cons_zero, List.getElem?_cons_succ, Bool.false_eq_true, not_true_eq_false, not_false_eq_true, List.contains_cons, List.contains_nil, Nat.reduceBEq, Bool.true_or, Bool.false_or, Bool.or_true, List.set_cons_zero, List.set_cons_succ, List.length_cons, List.length_nil, isLd, Bool.true_and, Bool.false_and, Bool.and_true, Bool.and_false, e10])
    have f16 : T' 16 = .int .i64 C := (hT 16 (by omega)).trans (by simp (maxSteps := 300000) (disch := omega) only [gs, gs2, gs3, ↓reduceIte, Nat.reduceEqDiff, Nat.mul_one, Nat.add_zero, Nat.zero_add, Nat.zero_mul, Int.toNat_natCast, Int.reduceToNat, Nat.reduceMul, Nat.reduceAdd, decide_true, decide_false, Bool.not_true, Bool.not_false, true_and, and_true, List.map_cons, List.map_nil, List.nil_append, List.cons_append, List.append_nil, Option.map_some, Option.bind_some, List.getElem?_cons_zero, List.getElem?_cons_succ, Bool.false_eq_true, not_true_eq_false, not_false_eq_true, List.contains_cons, List.contains_nil, Nat.reduceBEq, Bool.true_or, Bool.false_or, Bool.or_true, List.set_cons_zero, List.set_cons_succ, List.length_cons, List.length_nil, isLd, Bool.true_and, Bool.false_and, Bool.and_true, Bool.and_false, e16])
    have f17 : T' 17 = .int .i64 k := (hT 17 (by omega)).trans (by simp (maxSteps := 300000) (disch := omega) only [gs, gs2, gs3, ↓reduceIte, Nat.reduceEqDiff, Nat.mul_one, Nat.add_zero, Nat.zero_add, Nat.zero_mul, Int.toNat_natCast, Int.reduceToNat, Nat.reduceMul, Nat.reduceAdd, decide_true, decide_false, Bool.not_true, Bool.not_false, true_and, and_true, List.map_cons, List.map_nil, List.nil_append, List.cons_append, List.append_nil, Option.map_some, Option.bind_some, List.getElem?_cons_zero, List.getElem?_cons_succ, Bool.false_eq_true, not_true_eq_false, not_false_eq_true, List.contains_cons, List.contains_nil, Nat.reduceBEq, Bool.true_or, Bool.false_or, Bool.or_true, List.set_cons_zero, List.set_cons_succ, List.length_cons, List.length_nil, isLd, Bool.true_and, Bool.false_and, Bool.and_true, Bool.and_false, e17])
    clear hT
    have hwH : Rw H G4 b A' c' R C (clr (scl g t (invF (g t k) p) p) t k p) rest Ap := ⟨(hw3.sub.in_del hw3.nb).trans hw4.sub, hw3.nb, hw4.blk, hw4.row⟩
    simp (maxSteps := 300000) (disch := omega) only [gs, gs2, gs3, ↓reduceIte, Nat.reduceEqDiff, Nat.mul_one, Nat.add_zero, Nat.zero_add, Nat.zero_mul, Int.toNat_natCast, Int.reduceToNat, Nat.reduceMul, Nat.reduceAdd, decide_true, decide_false, Bool.not_true, Bool.not_false, true_and, and_true, List.map_cons, List.map_nil, List.nil_append, List.cons_append, List.append_nil, Option.map_some, Option.bind_some, List.getElem?_cons_zero, List.getElem?_cons_succ, Bool.false_eq_true, not_true_eq_false, not_false_eq_true, List.contains_cons, List.contains_nil, Nat.reduceBEq, Bool.true_or, Bool.false_or, Bool.or_true, List.set_cons_zero, List.set_cons_succ, List.length_cons, List.length_nil, isLd, Bool.true_and, Bool.false_and, Bool.and_true, Bool.and_false, f0, f1, f2, f8, f9, f10, f16, f17, q4, gBs]
    refine ⟨by intro v hv; simp at hv; subst hv; rfl, fun b15 hb15 => ?_⟩
    refine ap_own (hO4.sub (Sub.put hb15 _)) (cells_one [.int .i64 (k : Int)] true) rfl (by intro v hv; simp at hv; subst hv; rfl) rfl (by omega) (by omega) (by omega) fun G5 A5 c5 hO5 keep => ?_
    obtain ⟨s5, o5⟩ := keep _ (Sub.wo _ _) (Off.wo _ _)
    obtain ⟨hw5, oH5, d5⟩ := (hwH.up (Sub.put hb15 _)).rez hda hOf s5 o5
    simp (maxSteps := 300000) (disch := omega) only [gs, gs2, gs3, ↓reduceIte, Nat.reduceEqDiff, Nat.mul_one, Nat.add_zero, Nat.zero_add, Nat.zero_mul, Int.toNat_natCast, Int.reduceToNat, Nat.reduceMul, Nat.reduceAdd, decide_true, decide_false, Bool.not_true, Bool.not_false, true_and, and_true, List.map_cons, List.map_nil, List.nil_append, List.cons_append, List.append_nil, Option.map_some, Option.bind_some, List.getElem?_cons_zero, List.getElem?_cons_succ, Bool.false_eq_true, not_true_eq_false, not_false_eq_true, List.contains_cons, List.contains_nil, Nat.reduceBEq, Bool.true_or, Bool.false_or, Bool.or_true, List.set_cons_zero, List.set_cons_succ, List.length_cons, List.length_nil, isLd, Bool.true_and, Bool.false_and, Bool.and_true, Bool.and_false, f0, f1, f2, f8, f9, f10, f16, f17]
    exact hQ _ _ A' c' A5 c5 (by simp (maxSteps := 300000) (disch := omega) only [gs, gs2, gs3, ↓reduceIte, Nat.reduceEqDiff, Nat.mul_one, Nat.add_zero, Nat.zero_add, Nat.zero_mul, Int.toNat_natCast, Int.reduceToNat, Nat.reduceMul, Nat.reduceAdd, decide_true, decide_false, Bool.not_true, Bool.not_false, true_and, and_true, List.map_cons, List.map_nil, List.nil_append, List.cons_append, List.append_nil, Option.map_some, Option.bind_some, List.getElem?_cons_zero, List.getElem?_cons_succ, Bool.false_eq_true, not_true_eq_false, not_false_eq_true, List.contains_cons, List.contains_nil, Nat.reduceBEq, Bool.true_or, Bool.false_or, Bool.or_true, List.set_cons_zero, List.set_cons_succ, List.length_cons, List.length_nil, isLd, Bool.true_and, Bool.false_and, Bool.and_true, Bool.and_false, f0]) (by simp (maxSteps := 300000) (disch := omega) only [gs, gs2, gs3, ↓reduceIte, Nat.reduceEqDiff, Nat.mul_one, Nat.add_zero, Nat.zero_add, Nat.zero_mul, Int.toNat_natCast, Int.reduceToNat, Nat.reduceMul, Nat.reduceAdd, decide_true, decide_false, Bool.not_true, Bool.not_false, true_and, and_true, List.map_cons, List.map_nil, List.nil_append, List.cons_append, List.append_nil, Option.map_some, Option.bind_some, List.getElem?_cons_zero, List.getElem?_cons_succ, Bool.false_eq_true, not_true_eq_false, not_false_eq_true, List.contains_cons, List.contains_nil, Nat.reduceBEq, Bool.true_or, Bool.false_or, Bool.or_true, List.set_cons_zero, List.set_cons_succ, List.length_cons, List.length_nil, isLd, Bool.true_and, Bool.false_and, Bool.and_true, Bool.and_false, f1]) (by simp (maxSteps := 300000) (disch := omega) only [gs, gs2, gs3, ↓reduceIte, Nat.reduceEqDiff, Nat.mul_one, Nat.add_zero, Nat.zero_add, Nat.zero_mul, Int.toNat_natCast, Int.reduceToNat, Nat.reduceMul, Nat.reduceAdd, decide_true, decide_false, Bool.not_true, Bool.not_false, true_and, and_true, List.map_cons, List.map_nil, List.nil_append, List.cons_append, List.append_nil, Option.map_some, Option.bind_some, List.getElem?_cons_zero, List.getElem?_cons_succ, Bool.false_eq_true, not_true_eq_false, not_false_eq_true, List.contains_cons, List.contains_nil, Nat.reduceBEq, Bool.true_or, Bool.false_or, Bool.or_true, List.set_cons_zero, List.set_cons_succ, List.length_cons, List.length_nil, isLd, Bool.true_and, Bool.false_and, Bool.and_true, Bool.and_false, f2]) (by simp (maxSteps := 300000) (disch := omega) only [gs, gs2, gs3, ↓reduceIte, Nat.reduceEqDiff, Nat.mul_one, Nat.add_zero, Nat.zero_add, Nat.zero_mul, Int.toNat_natCast, Int.reduceToNat, Nat.reduceMul, Nat.reduceAdd, decide_true, decide_false, Bool.not_true, Bool.not_false, true_and, and_true, List.map_cons, List.map_nil, List.nil_append, List.cons_append, List.append_nil, Option.map_some, Option.bind_some, List.getElem?_cons_zero, List.getElem?_cons_succ, Bool.false_eq_true, not_true_eq_false, not_false_eq_true, List.contains_cons, List.contains_nil, Nat.reduceBEq, Bool.true_or, Bool.false_or, Bool.or_true, List.set_cons_zero, List.set_cons_succ, List.length_cons, List.length_nil, isLd, Bool.true_and, Bool.false_and, Bool.and_true, Bool.and_false]) (by simp (maxSteps := 300000) (disch := omega) only [gs, gs2, gs3, ↓reduceIte, Nat.reduceEqDiff, Nat.mul_one, Nat.add_zero, Nat.zero_add, Nat.zero_mul, Int.toNat_natCast, Int.reduceToNat, Nat.reduceMul, Nat.reduceAdd, decide_true, decide_false, Bool.not_true, Bool.not_false, true_and, and_true, List.map_cons, List.map_nil, List.nil_append, List.cons_append, List.append_nil, Option.map_some, Option.bind_some, List.getElem?_cons_zero, List.getElem?_cons_succ, Bool.false_eq_true, not_true_eq_false, not_false_eq_true, List.contains_cons, List.contains_nil, Nat.reduceBEq, Bool.true_or, Bool.false_or, Bool.or_true, List.set_cons_zero, List.set_cons_succ, List.length_cons, List.length_nil, isLd, Bool.true_and, Bool.false_and, Bool.and_true, Bool.and_false, f9]) (by simp (maxSteps := 300000) (disch := omega) only [gs, gs2, gs3, ↓reduceIte, Nat.reduceEqDiff, Nat.mul_one, Nat.add_zero, Nat.zero_add, Nat.zero_mul, Int.toNat_natCast, Int.reduceToNat, Nat.reduceMul, Nat.reduceAdd, decide_true, decide_false, Bool.not_true, Bool.not_false, true_and, and_true, List.map_cons, List.map_nil, List.nil_append, List.cons_append, List.append_nil, Option.map_some, Option.bind_some, List.getElem?_cons_zero, List.getElem?_cons_succ, Bool.false_eq_true, not_true_eq_false, not_false_eq_true, List.contains_cons, List.contains_nil, Nat.reduceBEq, Bool.true_or, Bool.false_or, Bool.or_true, List.set_cons_zero, List.set_cons_succ, List.length_cons, List.length_nil, isLd, Bool.true_and, Bool.false_and, Bool.and_true, Bool.and_false, f16]) (by simp (maxSteps := 300000) (disch := omega) only [gs, gs2, gs3, ↓reduceIte, Nat.reduceEqDiff, Nat.mul_one, Nat.add_zero, Nat.zero_add, Nat.zero_mul, Int.toNat_natCast, Int.reduceToNat, Nat.reduceMul, Nat.reduceAdd, decide_true, decide_false, Bool.not_true, Bool.not_false, true_and, and_true, List.map_cons, List.map_nil, List.nil_append, List.cons_append, List.append_nil, Option.map_some, Option.bind_some, List.getElem?_cons_zero, List.getElem?_cons_succ, Bool.false_eq_true, not_true_eq_false, not_false_eq_true, List.contains_cons, List.contains_nil, Nat.reduceBEq, Bool.true_or, Bool.false_or, Bool.or_true, List.set_cons_zero, List.set_cons_succ, List.length_cons, List.length_nil, isLd, Bool.true_and, Bool.false_and, Bool.and_true, Bool.and_false, f17]) hw5 (hO5.cast (by simp [I64]) rfl) oH5 d5
  · refine impl_inverseOf_ok ⟨by omega, by omega⟩ ⟨by omega, by omega⟩ ?_
    simp (maxSteps := 300000) (disch := omega) only [gs, gs2, gs3, ↓reduceIte, Nat.reduceEqDiff, Nat.mul_one, Nat.add_zero, Nat.zero_add, Nat.zero_mul, Int.toNat_natCast, Int.reduceToNat, Nat.reduceMul, Nat.reduceAdd, decide_true, decide_false, Bool.not_true, Bool.not_false, true_and, and_true, List.map_cons, List.map_nil, List.nil_append, List.cons_append, List.append_nil, Option.map_some, Option.bind_some, List.getElem?_cons_zero, List.getElem?_cons_succ, Bool.false_eq_true, not_true_eq_false, not_false_eq_true, List.contains_cons, List.contains_nil, Nat.reduceBEq, Bool.true_or, Bool.false_or, Bool.or_true, List.set_cons_zero, List.set_cons_succ, List.length_cons, List.length_nil, isLd, Bool.true_and, Bool.false_and, Bool.and_true, Bool.and_false, hgt]
    refine ⟨C, C, rfl, rfl, Nat.le_refl _, by omega, by omega, fun bz hbz => ?_⟩
    rw [hz]
    have sz := Sub.put hbz ⟨(rowL C fun _ => 0).map I64, true⟩
    have hI0 : IntS (put G bz ⟨(rowL C fun _ => 0).map I64, true⟩) (some ⟨bz, 0, none⟩) C (rowL C fun _ => 0) := by
      have := blk_ints (xs := rowL C fun _ => 0) (put_same G bz ⟨(rowL C fun _ => 0).map I64, true⟩)
      rwa [rowL_len] at this
    have hw1 := h.up sz
    have hO1 := hO.sub sz
    have kd1 := rd_sub (sz.del2 b) k10
    have hgt1 := hw1.get ht
    revert sz hI0 hw1 hO1 kd1 hgt1
    generalize put G bz ⟨(rowL C fun _ => 0).map I64, true⟩ = G1
    intro sz hI0 hw1 hO1 kd1 hgt1
    simp (maxSteps := 300000) (disch := omega) only [gs, gs2, gs3, ↓reduceIte, Nat.reduceEqDiff, Nat.mul_one, Nat.add_zero, Nat.zero_add, Nat.zero_mul, Int.toNat_natCast, Int.reduceToNat, Nat.reduceMul, Nat.reduceAdd, decide_true, decide_false, Bool.not_true, Bool.not_false, true_and, and_true, List.map_cons, List.map_nil, List.nil_append, List.cons_append, List.append_nil, Option.map_some, Option.bind_some, List.getElem?_cons_zero, List.getElem?_cons_succ, Bool.false_eq_true, not_true_eq_false, not_false_eq_true, List.contains_cons, List.contains_nil, Nat.reduceBEq, Bool.true_or, Bool.false_or, Bool.or_true, List.set_cons_zero, List.set_cons_succ, List.length_cons, List.length_nil, isLd, Bool.true_and, Bool.false_and, Bool.and_true, Bool.and_false, hgt1]
    refine key G1 bz sz hI0 fun G2 A3 c3 hN => ?_
    simp (maxSteps := 300000) (disch := omega) only [gs, gs2, gs3, ↓reduceIte, Nat.reduceEqDiff, Nat.mul_one, Nat.add_zero, Nat.zero_add, Nat.zero_mul, Int.toNat_natCast, Int.reduceToNat, Nat.reduceMul, Nat.reduceAdd, decide_true, decide_false, Bool.not_true, Bool.not_false, true_and, and_true, List.map_cons, List.map_nil, List.nil_append, List.cons_append, List.append_nil, Option.map_some, Option.bind_some, List.getElem?_cons_zero, List.getElem?_cons_succ, Bool.false_eq_true, not_true_eq_false, not_false_eq_true, List.contains_cons, List.contains_nil, Nat.reduceBEq, Bool.true_or, Bool.false_or, Bool.or_true, List.set_cons_zero, List.set_cons_succ, List.length_cons, List.length_nil, isLd, Bool.true_and, Bool.false_and, Bool.and_true, Bool.and_false, e0]
    have hO2 := hO1.sub hN.sub
    have hZ1 : ∀ a, Ap = some a → ∃ e, G1 a.block = some e := fun a ha => by
      rcases hO1 with ⟨h0, _⟩ | ⟨x, r, h0, h1, _⟩
      · rw [h0] at ha; cases ha
      · rw [h0] at ha; cases ha; exact ⟨_, h1⟩
    refine (hw1.up hN.sub).st ht hda (New.del (xs := rowL C fun j => (g t j * invF (g t k) p) % p) (hN.cast rfl (rowL_len _ _).symm) hw1.blk hZ1) fun G3 hw3 hdel _ => ?_
    rw [← setr_scl] at hw3
    have kd3 : rd (del G3 b) (some ⟨b10, 0, none⟩) = some (.int .i64 (k : Int)) := by rw [hdel]; exact rd_sub (hN.sub.del2 b) kd1
    have hO3 : Own G3 Ap cq (piv.map I64) 1 piv.length := (hO2.del hda).sub (by rw [← hdel]; exact Gh.Sub.del _ _)
    have hZ3 : ∀ a, Ap = some a → ∃ e, (del G3 b) a.block = some e := fun a ha => by
      rcases hO3 with ⟨h0, _⟩ | ⟨x, r, h0, h1, _⟩
      · rw [h0] at ha; cases ha
      · have := hda a ha
        rw [h0] at ha; cases ha; exact ⟨_, by rw [del_ne _ this]; exact h1⟩
    simp (maxSteps := 300000) (disch := omega) only [gs, gs2, gs3, ↓reduceIte, Nat.reduceEqDiff, Nat.mul_one, Nat.add_zero, Nat.zero_add, Nat.zero_mul, Int.toNat_natCast, Int.reduceToNat, Nat.reduceMul, Nat.reduceAdd, decide_true, decide_false, Bool.not_true, Bool.not_false, true_and, and_true, List.map_cons, List.map_nil, List.nil_append, List.cons_append, List.append_nil, Option.map_some, Option.bind_some, List.getElem?_cons_zero, List.getElem?_cons_succ, Bool.false_eq_true, not_true_eq_false, not_false_eq_true, List.contains_cons, List.contains_nil, Nat.reduceBEq, Bool.true_or, Bool.false_or, Bool.or_true, List.set_cons_zero, List.set_cons_succ, List.length_cons, List.length_nil, isLd, Bool.true_and, Bool.false_and, Bool.and_true, Bool.and_false, e0]
    refine el_l0 (D := del G3 b) (cp := cp) (h := scl g t (invF (g t k) p) p) (t := t) (k := k) hw3.all hda hZ3 hR hC (hr.scl (by omega) _ _) hp ht hk kd3 (by simp (maxSteps := 300000) (disch := omega) only [gs, gs2, gs3, ↓reduceIte, Nat.reduceEqDiff, Nat.mul_one, Nat.add_zero, Nat.zero_add, Nat.zero_mul, Int.toNat_natCast, Int.reduceToNat, Nat.reduceMul, Nat.reduceAdd, decide_true, decide_false, Bool.not_true, Bool.not_false, true_and, and_true, List.map_cons, List.map_nil, List.nil_append, List.cons_append, List.append_nil, Option.map_some, Option.bind_some, List.getElem?_cons_zero, List.getElem?_cons_succ, Bool.false_eq_true, not_true_eq_false, not_false_eq_true, List.contains_cons, List.contains_nil, Nat.reduceBEq, Bool.true_or, Bool.false_or, Bool.or_true, List.set_cons_zero, List.set_cons_succ, List.length_cons, List.length_nil, isLd, Bool.true_and, Bool.false_and, Bool.and_true, Bool.and_false, e0]) (by simp (maxSteps := 300000) (disch := omega) only [gs, gs2, gs3, ↓reduceIte, Nat.reduceEqDiff, Nat.mul_one, Nat.add_zero, Nat.zero_add, Nat.zero_mul, Int.toNat_natCast, Int.reduceToNat, Nat.reduceMul, Nat.reduceAdd, decide_true, decide_false, Bool.not_true, Bool.not_false, true_and, and_true, List.map_cons, List.map_nil, List.nil_append, List.cons_append, List.append_nil, Option.map_some, Option.bind_some, List.getElem?_cons_zero, List.getElem?_cons_succ, Bool.false_eq_true, not_true_eq_false, not_false_eq_true, List.contains_cons, List.contains_nil, Nat.reduceBEq, Bool.true_or, Bool.false_or, Bool.or_true, List.set_cons_zero, List.set_cons_succ, List.length_cons, List.length_nil, isLd, Bool.true_and, Bool.false_and, Bool.and_true, Bool.and_false, e2]) (by simp (maxSteps := 300000) (disch := omega) only [gs, gs2, gs3, ↓reduceIte, Nat.reduceEqDiff, Nat.mul_one, Nat.add_zero, Nat.zero_add, Nat.zero_mul, Int.toNat_natCast, Int.reduceToNat, Nat.reduceMul, Nat.reduceAdd, decide_true, decide_false, Bool.not_true, Bool.not_false, true_and, and_true, List.map_cons, List.map_nil, List.nil_append, List.cons_append, List.append_nil, Option.map_some, Option.bind_some, List.getElem?_cons_zero, List.getElem?_cons_succ, Bool.false_eq_true, not_true_eq_false, not_false_eq_true, List.contains_cons, List.contains_nil, Nat.reduceBEq, Bool.true_or, Bool.false_or, Bool.or_true, List.set_cons_zero, List.set_cons_succ, List.length_cons, List.length_nil, isLd, Bool.true_and, Bool.false_and, Bool.and_true, Bool.and_false, e10]) (by simp (maxSteps := 300000) (disch := omega) only [gs, gs2, gs3, ↓reduceIte, Nat.reduceEqDiff, Nat.mul_one, Nat.add_zero, Nat.zero_add, Nat.zero_mul, Int.toNat_natCast, Int.reduceToNat, Nat.reduceMul, Nat.reduceAdd, decide_true, decide_false, Bool.not_true, Bool.not_false, true_and, and_true, List.map_cons, List.map_nil, List.nil_append, List.cons_append, List.append_nil, Option.map_some, Option.bind_some, List.getElem?_cons_zero, List.getElem?_cons_succ, Bool.false_eq_true, not_true_eq_false, not_false_eq_true, List.contains_cons, List.contains_nil, Nat.reduceBEq, Bool.true_or, Bool.false_or, Bool.or_true, List.set_cons_zero, List.set_cons_succ, List.length_cons, List.length_nil, isLd, Bool.true_and, Bool.false_and, Bool.and_true, Bool.and_false, e11]) (by simp (maxSteps := 300000) (disch := omega) only [gs, gs2, gs3, ↓reduceIte, Nat.reduceEqDiff, Nat.mul_one, Nat.add_zero, Nat.zero_add, Nat.zero_mul, Int.toNat_natCast, Int.reduceToNat, Nat.reduceMul, Nat.reduceAdd, decide_true, decide_false, Bool.not_true, Bool.not_false, true_and, and_true, List.map_cons, List.map_nil, List.nil_append, List.cons_append, List.append_nil, Option.map_some, Option.bind_some, List.getElem?_cons_zero, List.getElem?_cons_succ, Bool.false_eq_true, not_true_eq_false, not_false_eq_true, List.contains_cons, List.contains_nil, Nat.reduceBEq, Bool.true_or, Bool.false_or, Bool.or_true, List.set_cons_zero, List.set_cons_succ, List.length_cons, List.length_nil, isLd, Bool.true_and, Bool.false_and, Bool.and_true, Bool.and_false, e0]) (by simp (maxSteps := 300000) (disch := omega) only [gs, gs2, gs3, ↓reduceIte, Nat.reduceEqDiff, Nat.mul_one, Nat.add_zero, Nat.zero_add, Nat.zero_mul, Int.toNat_natCast, Int.reduceToNat, Nat.reduceMul, Nat.reduceAdd, decide_true, decide_false, Bool.not_true, Bool.not_false, true_and, and_true, List.map_cons, List.map_nil, List.nil_append, List.cons_append, List.append_nil, Option.map_some, Option.bind_some, List.getElem?_cons_zero, List.getElem?_cons_succ, Bool.false_eq_true, not_true_eq_false, not_false_eq_true, List.contains_cons, List.contains_nil, Nat.reduceBEq, Bool.true_or, Bool.false_or, Bool.or_true, List.set_cons_zero, List.set_cons_succ, List.length_cons, List.length_nil, isLd, Bool.true_and, Bool.false_and, Bool.and_true, Bool.and_false]) (by simp (maxSteps := 300000) (disch := omega) only [gs, gs2, gs3, ↓reduceIte, Nat.reduceEqDiff, Nat.mul_one, Nat.add_zero, Nat.zero_add, Nat.zero_mul, Int.toNat_natCast, Int.reduceToNat, Nat.reduceMul, Nat.reduceAdd, decide_true, decide_false, Bool.not_true, Bool.not_false, true_and, and_true, List.map_cons, List.map_nil, List.nil_append, List.cons_append, List.append_nil, Option.map_some, Option.bind_some, List.getElem?_cons_zero, List.getElem?_cons_succ, Bool.false_eq_true, not_true_eq_false, not_false_eq_true, List.contains_cons, List.contains_nil, Nat.reduceBEq, Bool.true_or, Bool.false_or, Bool.or_true, List.set_cons_zero, List.set_cons_succ, List.length_cons, List.length_nil, isLd, Bool.true_and, Bool.false_and, Bool.and_true, Bool.and_false] <;> rfl) fun T' G4 A' c' hT hw4 => ?_
    have hO4 : Own G4 Ap cq (piv.map I64) 1 piv.length := (hO3.del hda).sub hw4.sub
    have q4 := rd_sub hw4.sub kd3
    have f0 : T' 0 = .slice (some ⟨b, 0, none⟩) R cp := (hT 0 (by omega)).trans (by simp (maxSteps := 300000) (disch := omega) only [gs, gs2, gs3, ↓reduceIte, Nat.reduceEqDiff, Nat.mul_one, Nat.add_zero, Nat.zero_add, Nat.zero_mul, Int.toNat_natCast, Int.reduceToNat, Nat.reduceMul, Nat.reduceAdd, decide_true, decide_false, Bool.not_true, Bool.not_false, true_and, and_true, List.map_cons, List.map_nil, List.nil_append, List.cons_append, List.append_nil, Option.map_some, Option.bind_some, List.getElem?_cons_zero, List.getElem?_cons_succ, Bool.false_eq_true, not_true_eq_false, not_false_eq_true, List.contains_cons, List.contains_nil, Nat.reduceBEq, Bool.true_or, Bool.false_or, Bool.or_true, List.set_cons_zero, List.set_cons_succ, List.length_cons, List.length_nil, isLd, Bool.true_and, Bool.false_and, Bool.and_true, Bool.and_false, e0])
    have f1 : T' 1 = .int .i64 C := (hT 1 (by omega)).trans (by simp (maxSteps := 300000) (disch := omega) only [gs, gs2, gs3, ↓reduceIte, Nat.reduceEqDiff, Nat.mul_one, Nat.add_zero, Nat.zero_add, Nat.zero_mul, Int.toNat_natCast, Int.reduceToNat, Nat.reduceMul, Nat.reduceAdd, decide_true, decide_false, Bool.not_true, Bool.not_false, true_and, and_true, List.map_cons, List.map_nil, List.nil_append, List.cons_append, List.append_nil, Option.map_some, Option.bind_some, List.getElem?_cons_zero, List.getElem?_cons_succ, Bool.false_eq_true, not_true_eq_false, not_false_eq_true, List.contains_cons, List.contains_nil, Nat.reduceBEq, Bool.true_or, Bool.false_or, Bool.or_true, List.set_cons_zero, List.set_cons_succ, List.length_cons, List.length_nil, isLd, Bool.true_and, Bool.false_and, Bool.and_true, Bool.and_false, e1])
    have f2 : T' 2 = .int .i64 p := (hT 2 (by omega)).trans (by simp (maxSteps := 300000) (disch := omega) only [gs, gs2, gs3, ↓reduceIte, Nat.reduceEqDiff, Nat.mul_one, Nat.add_zero, Nat.zero_add, Nat.zero_mul, Int.toNat_natCast, Int.reduceToNat, Nat.reduceMul, Nat.reduceAdd, decide_true, decide_false, Bool.not_true, Bool.not_false, true_and, and_true, List.map_cons, List.map_nil, List.nil_append, List.cons_append, List.append_nil, Option.map_some, Option.bind_some, List.getElem?_cons_zero, List.getElem?_cons_succ, Bool.false_eq_true, not_true_eq_false, not_false_eq_true, List.contains_cons, List.contains_nil, Nat.reduceBEq, Bool.true_or, Bool.false_or, Bool.or_true, List.set_cons_zero, List.set_cons_succ, List.length_cons, List.length_nil, isLd, Bool.true_and, Bool.false_and, Bool.and_true, Bool.and_false, e2])
    have f8 : T' 8 = .slice Ap piv.length cq := (hT 8 (by omega)).trans (by simp (maxSteps := 300000) (disch := omega) only [gs, gs2, gs3, ↓reduceIte, Nat.reduceEqDiff, Nat.mul_one, Nat.add_zero, Nat.zero_add, Nat.zero_mul, Int.toNat_natCast, Int.reduceToNat, Nat.reduceMul, Nat.reduceAdd, decide_true, decide_false, Bool.not_true, Bool.not_false, true_and, and_true, List.map_cons, List.map_nil, List.nil_append, List.cons_append, List.append_nil, Option.map_some, Option.bind_some, List.getElem?_cons_zero, List.getElem?_cons_succ, Bool.false_eq_true, not_true_eq_false, not_false_eq_true, List.contains_cons, List.contains_nil, Nat.reduceBEq, Bool.true_or, Bool.false_or, Bool.or_true, List.set_cons_zero, List.set_cons_succ, List.length_cons, List.length_nil, isLd, Bool.true_and, Bool.false_and, Bool.and_true, Bool.and_false, e8])
    have f9 : T' 9 = .int .i64 (det * g t k % p) := (hT 9 (by omega)).trans (by simp (maxSteps := 300000) (disch := omega) only [gs, gs2, gs3, ↓reduceIte, Nat.reduceEqDiff, Nat.mul_one, Nat.add_zero, Nat.zero_add, Nat.zero_mul, Int.toNat_natCast, Int.reduceToNat, Nat.reduceMul, Nat.reduceAdd, decide_true, decide_false, Bool.not_true, Bool.not_false, true_and, and_true, List.map_cons, List.map_nil, List.nil_append, List.cons_append, List.append_nil, Option.map_some, Option.bind_some, List.getElem?_cons_zero, List.getElem?_cons_succ, Bool.false_eq_true, not_true_eq_false, not_false_eq_true, List.contains_cons, List.contains_nil, Nat.reduceBEq, Bool.true_or, Bool.false_or, Bool.or_true, List.set_cons_zero, List.set_cons_succ, List.length_cons, List.length_nil, isLd, Bool.true_and, Bool.false_and, Bool.and_true, Bool.and_false])
    have f10 : T' 10 = .pointer (some ⟨b10, 0, none⟩) := (hT 10 (by omega)).trans (by simp (maxSteps := 300000) (disch := omega) only [gs, gs2, gs3, ↓reduceIte, Nat.reduceEqDiff, Nat.mul_one, Nat.add_zero, Nat.zero_add, Nat.zero_mul, Int.toNat_natCast, Int.reduceToNat, Nat.reduceMul, Nat.reduceAdd, decide_true, decide_false, Bool.not_true, Bool.not_false, true_and, and_true, List.map_cons, List.map_nil, List.nil_append, List.cons_append, List.append_nil, Option.map_some, Option.bind_some, List.getElem?_cons_zero, List.getElem?_cons_succ, Bool.false_eq_true, not_true_eq_false, not_false_eq_true, List.contains_cons, List.contains_nil, Nat.reduceBEq, Bool.true_or, Bool.false_or, Bool.or_true, List.set_cons_zero, List.set_cons_succ, List.length_cons, List.length_nil, isLd, Bool.true_and, Bool.false_and, Bool.and_true, Bool.and_false, e10])
    have f16 : T' 16 = .int .i64 C := (hT 16 (by omega)).trans (by simp (maxSteps := 300000) (disch := omega) only [gs, gs2, gs3, ↓reduceIte, Nat.reduceEqDiff, Nat.mul_one, Nat.add_zero, Nat.zero_add, Nat.zero_mul, Int.toNat_natCast, Int.reduceToNat, Nat.reduceMul, Nat.reduceAdd, decide_true, decide_false, Bool.not_true, Bool.not_false, true_and, and_true, List.map_cons, List.map_nil, List.nil_append, List.cons_append, List.append_nil, Option.map_some, Option.bind_some, List.getElem?_cons_zero, List.getElem?_cons_succ, Bool.false_eq_true, not_true_eq_false, not_false_eq_true, List.contains_cons, List.contains_nil, Nat.reduceBEq, Bool.true_or, Bool.false_or, Bool.or_true, List.set_cons_zero, List.set_cons_succ, List.length_cons, List.length_nil, isLd, Bool.true_and, Bool.false_and, Bool.and_true, Bool.and_false, e16])
    have f17 : T' 17 = .int .i64 k := (hT 17 (by omega)).trans (by simp (maxSteps := 300000) (disch := omega) only [gs, gs2, gs3, ↓reduceIte, Nat.reduceEqDiff, Nat.mul_one, Nat.add_zero, Nat.zero_add, Nat.zero_mul, Int.toNat_natCast, Int.reduceToNat, Nat.reduceMul, Nat.reduceAdd, decide_true, decide_false, Bool.not_true, Bool.not_false, true_and, and_true, List.map_cons, List.map_nil, List.nil_append, List.cons_append, List.append_nil, Option.map_some, Option.bind_some, List.getElem?_cons_zero, List.getElem?_cons_succ, Bool.false_eq_true, not_true_eq_false, not_false_eq_true, List.contains_cons, List.contains_nil, Nat.reduceBEq, Bool.true_or, Bool.false_or, Bool.or_true, List.set_cons_zero, List.set_cons_succ, List.length_cons, List.length_nil, isLd, Bool.true_and, Bool.false_and, Bool.and_true, Bool.and_false, e17])
    clear hT
    have hwH : Rw H G4 b A' c' R C (clr (scl g t (invF (g t k) p) p) t k p) rest Ap := ⟨(hw3.sub.in_del hw3.nb).trans hw4.sub, hw3.nb, hw4.blk, hw4.row⟩
    simp (maxSteps := 300000) (disch := omega) only [gs, gs2, gs3, ↓reduceIte, Nat.reduceEqDiff, Nat.mul_one, Nat.add_zero, Nat.zero_add, Nat.zero_mul, Int.toNat_natCast, Int.reduceToNat, Nat.reduceMul, Nat.reduceAdd, decide_true, decide_false, Bool.not_true, Bool.not_false, true_and, and_true, List.map_cons, List.map_nil, List.nil_append, List.cons_append, List.append_nil, Option.map_some, Option.bind_some, List.getElem?_cons_zero, List.getElem?_cons_succ, Bool.false_eq_true, not_true_eq_false, not_false_eq_true, List.contains_cons, List.contains_nil, Nat.reduceBEq, Bool.true_or, Bool.false_or, Bool.or_true, List.set_cons_zero, List.set_cons_succ, List.length_cons, List.length_nil, isLd, Bool.true_and, Bool.false_and, Bool.and_true, Bool.and_false, f0, f1, f2, f8, f9, f10, f16, f17, q4, gBs]
    refine ⟨by intro v hv; simp at hv; subst hv; rfl, fun b15 hb15 => ?_⟩
    refine ap_own (hO4.sub (Sub.put hb15 _)) (cells_one [.int .i64 (k : Int)] true) rfl (by intro v hv; simp at hv; subst hv; rfl) rfl (by omega) (by omega) (by omega) fun G5 A5 c5 hO5 keep => ?_
    obtain ⟨s5, o5⟩ := keep _ (Sub.wo _ _) (Off.wo _ _)
    obtain ⟨hw5, oH5, d5⟩ := (hwH.up (Sub.put hb15 _)).rez hda hOf s5 o5
    simp (maxSteps := 300000) (disch := omega) only [gs, gs2, gs3, ↓reduceIte, Nat.reduceEqDiff, Nat.mul_one, Nat.add_zero, Nat.zero_add, Nat.zero_mul, Int.toNat_natCast, Int.reduceToNat, Nat.reduceMul, Nat.reduceAdd, decide_true, decide_false, Bool.not_true, Bool.not_false, true_and, and_true, List.map_cons, List.map_nil, List.nil_append, List.cons_append, List.append_nil, Option.map_some, Option.bind_some, List.getElem?_cons_zero, List.getElem?_cons_succ, Bool.false_eq_true, not_true_eq_false, not_false_eq_true, List.contains_cons, List.contains_nil, Nat.reduceBEq, Bool.true_or, Bool.false_or, Bool.or_true, List.set_cons_zero, List.set_cons_succ, List.length_cons, List.length_nil, isLd, Bool.true_and, Bool.false_and, Bool.and_true, Bool.and_false, f0, f1, f2, f8, f9, f10, f16, f17]
    exact hQ _ _ A' c' A5 c5 (by simp (maxSteps := 300000) (disch := omega) only [gs, gs2, gs3, ↓reduceIte, Nat.reduceEqDiff, Nat.mul_one, Nat.add_zero, Nat.zero_add, Nat.zero_mul, Int.toNat_natCast, Int.reduceToNat, Nat.reduceMul, Nat.reduceAdd, decide_true, decide_false, Bool.not_true, Bool.not_false, true_and, and_true, List.map_cons, List.map_nil, List.nil_append, List.cons_append, List.append_nil, Option.map_some, Option.bind_some, List.getElem?_cons_zero, List.getElem?_cons_succ, Bool.false_eq_true, not_true_eq_false, not_false_eq_true, List.contains_cons, List.contains_nil, Nat.reduceBEq, Bool.true_or, Bool.false_or, Bool.or_true, List.set_cons_zero, List.set_cons_succ, List.length_cons, List.length_nil, isLd, Bool.true_and, Bool.false_and, Bool.and_true, Bool.and_false, f0]) (by simp (maxSteps := 300000) (disch := omega) only [gs, gs2, gs3, ↓reduceIte, Nat.reduceEqDiff, Nat.mul_one, Nat.add_zero, Nat.zero_add, Nat.zero_mul, Int.toNat_natCast, Int.reduceToNat, Nat.reduceMul, Nat.reduceAdd, decide_true, decide_false, Bool.not_true, Bool.not_false, true_and, and_true, List.map_cons, List.map_nil, List.nil_append, List.cons_append, List.append_nil, Option.map_some, Option.bind_some, List.getElem?_cons_zero, List.getElem?_cons_succ, Bool.false_eq_true, not_true_eq_false, not_false_eq_true, List.contains_cons, List.contains_nil, Nat.reduceBEq, Bool.true_or, Bool.false_or, Bool.or_true, List.set_cons_zero, List.set_cons_succ, List.length_cons, List.length_nil, isLd, Bool.true_and, Bool.false_and, Bool.and_true, Bool.and_false, f1]) (by simp (maxSteps := 300000) (disch := omega) only [gs, gs2, gs3, ↓reduceIte, Nat.reduceEqDiff, Nat.mul_one, Nat.add_zero, Nat.zero_add, Nat.zero_mul, Int.toNat_natCast, Int.reduceToNat, Nat.reduceMul, Nat.reduceAdd, decide_true, decide_false, Bool.not_true, Bool.not_false, true_and, and_true, List.map_cons, List.map_nil, List.nil_append, List.cons_append, List.append_nil, Option.map_some, Option.bind_some, List.getElem?_cons_zero, List.getElem?_cons_succ, Bool.false_eq_true, not_true_eq_false, not_false_eq_true, List.contains_cons, List.contains_nil, Nat.reduceBEq, Bool.true_or, Bool.false_or, Bool.or_true, List.set_cons_zero, List.set_cons_succ, List.length_cons, List.length_nil, isLd, Bool.true_and, Bool.false_and, Bool.and_true, Bool.and_false, f2]) (by simp (maxSteps := 300000) (disch := omega) only [gs, gs2, gs3, ↓reduceIte, Nat.reduceEqDiff, Nat.mul_one, Nat.add_zero, Nat.zero_add, Nat.zero_mul, Int.toNat_natCast, Int.reduceToNat, Nat.reduceMul, Nat.reduceAdd, decide_true, decide_false, Bool.not_true, Bool.not_false, true_and, and_true, List.map_cons, List.map_nil, List.nil_append, List.cons_append, List.append_nil, Option.map_some, Option.bind_some, List.getElem?_cons_zero, List.getElem?_cons_succ, Bool.false_eq_true, not_true_eq_false, not_false_eq_true, List.contains_cons, List.contains_nil, Nat.reduceBEq, Bool.true_or, Bool.false_or, Bool.or_true, List.set_cons_zero, List.set_cons_succ, List.length_cons, List.length_nil, isLd, Bool.true_and, Bool.false_and, Bool.and_true, Bool.and_false]) (by simp (maxSteps := 300000) (disch := omega) only [gs, gs2, gs3, ↓reduceIte, Nat.reduceEqDiff, Nat.mul_one, Nat.add_zero, Nat.zero_add, Nat.zero_mul, Int.toNat_natCast, Int.reduceToNat, Nat.reduceMul, Nat.reduceAdd, decide_true, decide_false, Bool.not_true, Bool.not_false, true_and, and_true, List.map_cons, List.map_nil, List.nil_append, List.cons_append, List.append_nil, Option.map_some, Option.bind_some, List.getElem?_cons_zero, List.getElem?_cons_succ, Bool.false_eq_true, not_true_eq_false, not_false_eq_true, List.contains_cons, List.contains_nil, Nat.reduceBEq, Bool.true_or, Bool.false_or, Bool.or_true, List.set_cons_zero, List.set_cons_succ, List.length_cons, List.length_nil, isLd, Bool.true_and, Bool.false_and, Bool.and_true, Bool.and_false, f9]) (by simp (maxSteps := 300000) (disch := omega) only [gs, gs2, gs3, ↓reduceIte, Nat.reduceEqDiff, Nat.mul_one, Nat.add_zero, Nat.zero_add, Nat.zero_mul, Int.toNat_natCast, Int.reduceToNat, Nat.reduceMul, Nat.reduceAdd, decide_true, decide_false, Bool.not_true, Bool.not_false, true_and, and_true, List.map_cons, List.map_nil, List.nil_append, List.cons_append, List.append_nil, Option.map_some, Option.bind_some, List.getElem?_cons_zero, List.getElem?_cons_succ, Bool.false_eq_true, not_true_eq_false, not_false_eq_true, List.contains_cons, List.contains_nil, Nat.reduceBEq, Bool.true_or, Bool.false_or, Bool.or_true, List.set_cons_zero, List.set_cons_succ, List.length_cons, List.length_nil, isLd, Bool.true_and, Bool.false_and, Bool.and_true, Bool.and_false, f16]) (by simp (maxSteps := 300000) (disch := omega) only [gs, gs2, gs3, ↓reduceIte, Nat.reduceEqDiff, Nat.mul_one, Nat.add_zero, Nat.zero_add, Nat.zero_mul, Int.toNat_natCast, Int.reduceToNat, Nat.reduceMul, Nat.reduceAdd, decide_true, decide_false, Bool.not_true, Bool.not_false, true_and, and_true, List.map_cons, List.map_nil, List.nil_append, List.cons_append, List.append_nil, Option.map_some, Option.bind_some, List.getElem?_cons_zero, List.getElem?_cons_succ, Bool.false_eq_true, not_true_eq_false, not_false_eq_true, List.contains_cons, List.contains_nil, Nat.reduceBEq, Bool.true_or, Bool.false_or, Bool.or_true, List.set_cons_zero, List.set_cons_succ, List.length_cons, List.length_nil, isLd, Bool.true_and, Bool.false_and, Bool.and_true, Bool.and_false, f17]) hw5 (hO5.cast (by simp [I64]) rfl) oH5 d5
abbrev elSwap : GCode := .seq (.reg c_impl_eliminate_10) (.cond (tt 30) (.seq (.dreg c_impl_eliminate_11) (.reg c_impl_eliminate_12)) .skip)
theorem el_swap {H G : GH} {b b10 cp cq t i k : Nat} {A : Nat → Option Addr} {c : Nat → Nat} {Ap : Option Addr} {R C n : Nat} {f : Int → Int → Int} {rest : List Value} {p det : Int} {cs : List Value} {T : Nat → Value} {Q : Cont} {X : GCode} (h : Rw H G b A c R C f rest Ap) (hR : R < 2 ^ 10) (hp : 1 < p ∧ p ≤ 2 ^ 30)
    (ht : t ≤ i) (hi : i < R) (hd : 0 ≤ det ∧ det < p) (k10 : rd (del G b) (some ⟨b10, 0, none⟩) = some (.int .i64 (k : Int))) (hO : Own G Ap cq cs 1 n) (hda : ∀ a, Ap = some a → a.block ≠ b)
    (e0 : T 0 = .slice (some ⟨b, 0, none⟩) R cp) (e1 : T 1 = .int .i64 C) (e2 : T 2 = .int .i64 p) (e8 : T 8 = .slice Ap n cq) (e9 : T 9 = .int .i64 det) (e10 : T 10 = .pointer (some ⟨b10, 0, none⟩)) (e11 : T 11 = .int .i64 t) (e12 : T 12 = .int .i64 ((i - t : Nat) : Int)) (e16 : T 16 = .int .i64 C) (e17 : T 17 = .int .i64 k)
    (hX : ∀ T' G' A' c', T' 0 = .slice (some ⟨b, 0, none⟩) R cp → T' 1 = .int .i64 C → T' 2 = .int .i64 p → T' 8 = .slice Ap n cq → T' 9 = .int .i64 (if i = t then det else (-det) % p) → T' 10 = .pointer (some ⟨b10, 0, none⟩) → T' 11 = .int .i64 t → T' 16 = .int .i64 C → T' 17 = .int .i64 k →
      Rw H G' b A' c' R C (swp f t i) rest Ap → Own G' Ap cq cs 1 n → rd (del G' b) (some ⟨b10, 0, none⟩) = some (.int .i64 (k : Int)) → gW Try.prog X Q T' G') : gW Try.prog (.seq elSwap X) Q T G := by
  simp (maxSteps := 300000) (disch := omega) only [gs, gs2, gs3, ↓reduceIte, Nat.reduceEqDiff, Nat.mul_one, Nat.add_zero, Nat.zero_add, Nat.zero_mul, Int.toNat_natCast, Int.reduceToNat, Nat.reduceMul, Nat.reduceAdd, decide_true, decide_false, Bool.not_true, Bool.not_false, true_and, and_true, List.map_cons, List.map_nil, List.nil_append, List.cons_append, List.append_nil, Option.map_some, Option.bind_some, List.getElem?_cons_zero, List.getElem?_cons_succ, Bool.false_eq_true, not_true_eq_false, not_false_eq_true, List.contains_cons, List.contains_nil, Nat.reduceBEq, Bool.true_or, Bool.false_or, Bool.or_true, List.set_cons_zero, List.set_cons_succ, List.length_cons, List.length_nil, isLd, Bool.true_and, Bool.false_and, Bool.and_true, Bool.and_false, e12]
  by_cases hit : i = t
  · subst hit
    simp (maxSteps := 300000) (disch := omega) only [gs, gs2, gs3, ↓reduceIte, Nat.reduceEqDiff, Nat.mul_one, Nat.add_zero, Nat.zero_add, Nat.zero_mul, Int.toNat_natCast, Int.reduceToNat, Nat.reduceMul, Nat.reduceAdd, decide_true, decide_false, Bool.not_true, Bool.not_false, true_and, and_true, List.map_cons, List.map_nil, List.nil_append, List.cons_append, List.append_nil, Option.map_some, Option.bind_some, List.getElem?_cons_zero, List.getElem?_cons_succ, Bool.false_eq_true, not_true_eq_false, not_false_eq_true, List.contains_cons, List.contains_nil, Nat.reduceBEq, Bool.true_or, Bool.false_or, Bool.or_true, List.set_cons_zero, List.set_cons_succ, List.length_cons, List.length_nil, isLd, Bool.true_and, Bool.false_and, Bool.and_true, Bool.and_false, show ((0 : Int) < ((i - i : Nat) : Int)) = False from eq_false (by omega)]
    exact hX _ G A c (by simp (maxSteps := 300000) (disch := omega) only [gs, gs2, gs3, ↓reduceIte, Nat.reduceEqDiff, Nat.mul_one, Nat.add_zero, Nat.zero_add, Nat.zero_mul, Int.toNat_natCast, Int.reduceToNat, Nat.reduceMul, Nat.reduceAdd, decide_true, decide_false, Bool.not_true, Bool.not_false, true_and, and_true, List.map_cons, List.map_nil, List.nil_append, List.cons_append, List.append_nil, Option.map_some, Option.bind_some, List.getElem?_cons_zero, List.getElem?_cons_succ, Bool.false_eq_true, not_true_eq_false, not_false_eq_true, List.contains_cons, List.contains_nil, Nat.reduceBEq, Bool.true_or, Bool.false_or, Bool.or_true, List.set_cons_zero, List.set_cons_succ, List.length_cons, List.length_nil, isLd, Bool.true_and, Bool.false_and, Bool.and_true, Bool.and_false, e0]) (by simp (maxSteps := 300000) (disch := omega) only [gs, gs2, gs3, ↓reduceIte, Nat.reduceEqDiff, Nat.mul_one, Nat.add_zero, Nat.zero_add, Nat.zero_mul, Int.toNat_natCast, Int.reduceToNat, Nat.reduceMul, Nat.reduceAdd, decide_true, decide_false, Bool.not_true, Bool.not_false, true_and, and_true, List.map_cons, List.map_nil, List.nil_append, List.cons_append, List.append_nil, Option.map_some, Option.bind_some, List.getElem?_cons_zero, List.getElem?_cons_succ, Bool.false_eq_true, not_true_eq_false, not_false_eq_true, List.contains_cons, List.contains_nil, Nat.reduceBEq, Bool.true_or, Bool.false_or, Bool.or_true, List.set_cons_zero, List.set_cons_succ, List.length_cons, List.length_nil, isLd, Bool.true_and, Bool.false_and, Bool.and_true, Bool.and_false, e1]) (by simp (maxSteps := 300000) (disch := omega) only [gs, gs2, gs3, ↓reduceIte, Nat.reduceEqDiff, Nat.mul_one, Nat.add_zero, Nat.zero_add, Nat.zero_mul, Int.toNat_natCast, Int.reduceToNat, Nat.reduceMul, Nat.reduceAdd, decide_true, decide_false, Bool.not_true, Bool.not_false, true_and, and_true, List.map_cons, List.map_nil, List.nil_append, List.cons_append, List.append_nil, Option.map_some, Option.bind_some, List.getElem?_cons_zero, List.getElem?_cons_succ, Bool.false_eq_true, not_true_eq_false, not_false_eq_true, List.contains_cons, List.contains_nil, Nat.reduceBEq, Bool.true_or, Bool.false_or, Bool.or_true, List.set_cons_zero, List.set_cons_succ, List.length_cons, List.length_nil, isLd, Bool.true_and, Bool.false_and, Bool.and_true, Bool.and_false, e2]) (by simp (maxSteps := 300000) (disch := omega) only [gs, gs2, gs3, ↓reduceIte, Nat.reduceEqDiff, Nat.mul_one, Nat.add_zero, Nat.zero_add, Nat.zero_mul, Int.toNat_natCast, Int.reduceToNat, Nat.reduceMul, Nat.reduceAdd, decide_true, decide_false, Bool.not_true, Bool.not_false, true_and, and_true, List.map_cons, List.map_nil, List.nil_append, List.cons_append, List.append_nil, Option.map_some, Option.bind_some, List.getElem?_cons_zero, List.getElem?_cons_succ, Bool.false_eq_true, not_true_eq_false, not_false_eq_true, List.contains_cons, List.contains_nil, Nat.reduceBEq, Bool.true_or, Bool.false_or, Bool.or_true, List.set_cons_zero, List.set_cons_succ, List.length_cons, List.length_nil, isLd, Bool.true_and, Bool.false_and, Bool.and_true, Bool.and_false, e8]) (by simp (maxSteps := 300000) (disch := omega) only [gs, gs2, gs3, ↓reduceIte, Nat.reduceEqDiff, Nat.mul_one, Nat.add_zero, Nat.zero_add, Nat.zero_mul, Int.toNat_natCast, Int.reduceToNat, Nat.reduceMul, Nat.reduceAdd, decide_true, decide_false, Bool.not_true, Bool.not_false, true_and, and_true, List.map_cons, List.map_nil, List.nil_append, List.cons_append, List.append_nil, Option.map_some, Option.bind_some, List.getElem?_cons_zero, List.getElem?_cons_succ, Bool.false_eq_true, not_true_eq_false, not_false_eq_true, List.contains_cons, List.contains_nil, Nat.reduceBEq, Bool.true_or, Bool.false_or, Bool.or_true, List.set_cons_zero, List.set_cons_succ, List.length_cons, List.length_nil, isLd, Bool.true_and, Bool.false_and, Bool.and_true, Bool.and_false, e9]) (by simp (maxSteps := 300000) (disch := omega) only [gs, gs2, gs3, ↓reduceIte, Nat.reduceEqDiff, Nat.mul_one, Nat.add_zero, Nat.zero_add, Nat.zero_mul, Int.toNat_natCast, Int.reduceToNat, Nat.reduceMul, Nat.reduceAdd, decide_true, decide_false, Bool.not_true, Bool.not_false, true_and, and_true, List.map_cons, List.map_nil, List.nil_append, List.cons_append, List.append_nil, Option.map_some, Option.bind_some, List.getElem?_cons_zero, List.getElem?_cons_succ, Bool.false_eq_true, not_true_eq_false, not_false_eq_true, List.contains_cons, List.contains_nil, Nat.reduceBEq, Bool.true_or, Bool.false_or, Bool.or_true, List.set_cons_zero, List.set_cons_succ, List.length_cons, List.length_nil, isLd, Bool.true_and, Bool.false_and, Bool.and_true, Bool.and_false, e10]) (by simp (maxSteps := 300000) (disch := omega) only [gs, gs2, gs3, ↓reduceIte, Nat.reduceEqDiff, Nat.mul_one, Nat.add_zero, Nat.zero_add, Nat.zero_mul, Int.toNat_natCast, Int.reduceToNat, Nat.reduceMul, Nat.reduceAdd, decide_true, decide_false, Bool.not_true, Bool.not_false, true_and, and_true, List.map_cons, List.map_nil, List.nil_append, List.cons_append, List.append_nil, Option.map_some, Option.bind_some, List.getElem?_cons_zero, List.getElem?_cons_succ, Bool.false_eq_true, not_true_eq_false, not_false_eq_true, List.contains_cons, List.contains_nil, Nat.reduceBEq, Bool.true_or, Bool.false_or, Bool.or_true, List.set_cons_zero, List.set_cons_succ, List.length_cons, List.length_nil, isLd, Bool.true_and, Bool.false_and, Bool.and_true, Bool.and_false, e11]) (by simp (maxSteps := 300000) (disch := omega) only [gs, gs2, gs3, ↓reduceIte, Nat.reduceEqDiff, Nat.mul_one, Nat.add_zero, Nat.zero_add, Nat.zero_mul, Int.toNat_natCast, Int.reduceToNat, Nat.reduceMul, Nat.reduceAdd, decide_true, decide_false, Bool.not_true, Bool.not_false, true_and, and_true, List.map_cons, List.map_nil, List.nil_append, List.cons_append, List.append_nil, Option.map_some, Option.bind_some, List.getElem?_cons_zero, List.getElem?_cons_succ, Bool.false_eq_true, not_true_eq_false, not_false_eq_true, List.contains_cons, List.contains_nil, Nat.reduceBEq, Bool.true_or, Bool.false_or, Bool.or_true, List.set_cons_zero, List.set_cons_succ, List.length_cons, List.length_nil, isLd, Bool.true_and, Bool.false_and, Bool.and_true, Bool.and_false, e16]) (by simp (maxSteps := 300000) (disch := omega) only [gs, gs2, gs3, ↓reduceIte, Nat.reduceEqDiff, Nat.mul_one, Nat.add_zero, Nat.zero_add, Nat.zero_mul, Int.toNat_natCast, Int.reduceToNat, Nat.reduceMul, Nat.reduceAdd, decide_true, decide_false, Bool.not_true, Bool.not_false, true_and, and_true, List.map_cons, List.map_nil, List.nil_append, List.cons_append, List.append_nil, Option.map_some, Option.bind_some, List.getElem?_cons_zero, List.getElem?_cons_succ, Bool.false_eq_true, not_true_eq_false, not_false_eq_true, List.contains_cons, List.contains_nil, Nat.reduceBEq, Bool.true_or, Bool.false_or, Bool.or_true, List.set_cons_zero, List.set_cons_succ, List.length_cons, List.length_nil, isLd, Bool.true_and, Bool.false_and, Bool.and_true, Bool.and_false, e17]) (h.cong fun a j _ _ => by unfold swp; by_cases e : (a : Int) = i <;> simp [e]) hO k10
  have hgt := h.get (show t < R by omega)
  have hgi := h.get hi
  have hti : (t : Int) + ((i - t : Nat) : Int) = i := by omega
  simp (maxSteps := 300000) (disch := omega) only [gs, gs2, gs3, ↓reduceIte, Nat.reduceEqDiff, Nat.mul_one, Nat.add_zero, Nat.zero_add, Nat.zero_mul, Int.toNat_natCast, Int.reduceToNat, Nat.reduceMul, Nat.reduceAdd, decide_true, decide_false, Bool.not_true, Bool.not_false, true_and, and_true, List.map_cons, List.map_nil, List.nil_append, List.cons_append, List.append_nil, Option.map_some, Option.bind_some, List.getElem?_cons_zero, List.getElem?_cons_succ, Bool.false_eq_true, not_true_eq_false, not_false_eq_true, List.contains_cons, List.contains_nil, Nat.reduceBEq, Bool.true_or, Bool.false_or, Bool.or_true, List.set_cons_zero, List.set_cons_succ, List.length_cons, List.length_nil, isLd, Bool.true_and, Bool.false_and, Bool.and_true, Bool.and_false, show ((0 : Int) < ((i - t : Nat) : Int)) = True from eq_true (by omega), e0, e11, e12, hgt, hgi, hti]
  refine h.st (i := t) (by omega) hda (h.row i hi) fun G1 h1 hd1 hd2 => ?_
  simp (maxSteps := 300000) (disch := omega) only [gs, gs2, gs3, ↓reduceIte, Nat.reduceEqDiff, Nat.mul_one, Nat.add_zero, Nat.zero_add, Nat.zero_mul, Int.toNat_natCast, Int.reduceToNat, Nat.reduceMul, Nat.reduceAdd, decide_true, decide_false, Bool.not_true, Bool.not_false, true_and, and_true, List.map_cons, List.map_nil, List.nil_append, List.cons_append, List.append_nil, Option.map_some, Option.bind_some, List.getElem?_cons_zero, List.getElem?_cons_succ, Bool.false_eq_true, not_true_eq_false, not_false_eq_true, List.contains_cons, List.contains_nil, Nat.reduceBEq, Bool.true_or, Bool.false_or, Bool.or_true, List.set_cons_zero, List.set_cons_succ, List.length_cons, List.length_nil, isLd, Bool.true_and, Bool.false_and, Bool.and_true, Bool.and_false, e0, e11, e12, hti]
  refine h1.st hi hda (by rw [hd2]; exact h.row t (by omega)) fun G2 h2 hd3 _ => ?_
  have hO2 : Own G2 Ap cq cs 1 n := (hO.del hda).sub (by rw [← hd1, ← hd3]; exact Gh.Sub.del _ _)
  have k2 : rd (del G2 b) (some ⟨b10, 0, none⟩) = some (.int .i64 (k : Int)) := by rw [hd3, hd1]; exact k10
  simp (maxSteps := 300000) (disch := omega) only [gs, gs2, gs3, ↓reduceIte, Nat.reduceEqDiff, Nat.mul_one, Nat.add_zero, Nat.zero_add, Nat.zero_mul, Int.toNat_natCast, Int.reduceToNat, Nat.reduceMul, Nat.reduceAdd, decide_true, decide_false, Bool.not_true, Bool.not_false, true_and, and_true, List.map_cons, List.map_nil, List.nil_append, List.cons_append, List.append_nil, Option.map_some, Option.bind_some, List.getElem?_cons_zero, List.getElem?_cons_succ, Bool.false_eq_true, not_true_eq_false, not_false_eq_true, List.contains_cons, List.contains_nil, Nat.reduceBEq, Bool.true_or, Bool.false_or, Bool.or_true, List.set_cons_zero, List.set_cons_succ, List.length_cons, List.length_nil, isLd, Bool.true_and, Bool.false_and, Bool.and_true, Bool.and_false, e0, e1, e2, e8, e9, e10, e11, e16, e17]
  refine impl_reduce_ok ⟨by omega, by omega⟩ ?_
  simp (maxSteps := 300000) (disch := omega) only [gs, gs2, gs3, ↓reduceIte, Nat.reduceEqDiff, Nat.mul_one, Nat.add_zero, Nat.zero_add, Nat.zero_mul, Int.toNat_natCast, Int.reduceToNat, Nat.reduceMul, Nat.reduceAdd, decide_true, decide_false, Bool.not_true, Bool.not_false, true_and, and_true, List.map_cons, List.map_nil, List.nil_append, List.cons_append, List.append_nil, Option.map_some, Option.bind_some, List.getElem?_cons_zero, List.getElem?_cons_succ, Bool.false_eq_true, not_true_eq_false, not_false_eq_true, List.contains_cons, List.contains_nil, Nat.reduceBEq, Bool.true_or, Bool.false_or, Bool.or_true, List.set_cons_zero, List.set_cons_succ, List.length_cons, List.length_nil, isLd, Bool.true_and, Bool.false_and, Bool.and_true, Bool.and_false, e0, e1, e2, e8, e9, e10, e11, e16, e17]
  refine hX _ G2 _ _ (by simp (maxSteps := 300000) (disch := omega) only [gs, gs2, gs3, ↓reduceIte, Nat.reduceEqDiff, Nat.mul_one, Nat.add_zero, Nat.zero_add, Nat.zero_mul, Int.toNat_natCast, Int.reduceToNat, Nat.reduceMul, Nat.reduceAdd, decide_true, decide_false, Bool.not_true, Bool.not_false, true_and, and_true, List.map_cons, List.map_nil, List.nil_append, List.cons_append, List.append_nil, Option.map_some, Option.bind_some, List.getElem?_cons_zero, List.getElem?_cons_succ, Bool.false_eq_true, not_true_eq_false, not_false_eq_true, List.contains_cons, List.contains_nil, Nat.reduceBEq, Bool.true_or, Bool.false_or, Bool.or_true, List.set_cons_zero, List.set_cons_succ, List.length_cons, List.length_nil, isLd, Bool.true_and, Bool.false_and, Bool.and_true, Bool.and_false, e0]) (by simp (maxSteps := 300000) (disch := omega) only [gs, gs2, gs3, ↓reduceIte, Nat.reduceEqDiff, Nat.mul_one, Nat.add_zero, Nat.zero_add, Nat.zero_mul, Int.toNat_natCast, Int.reduceToNat, Nat.reduceMul, Nat.reduceAdd, decide_true, decide_false, Bool.not_true, Bool.not_false, true_and, and_true, List.map_cons, List.map_nil, List.nil_append, List.cons_append, List.append_nil, Option.map_some, Option.bind_some, List.getElem?_cons_zero, List.getElem?_cons_succ, Bool.false_eq_true, not_true_eq_false, not_false_eq_true, List.contains_cons, List.contains_nil, Nat.reduceBEq, Bool.true_or, Bool.false_or, Bool.or_true, List.set_cons_zero, List.set_cons_succ, List.length_cons, List.length_nil, isLd, Bool.true_and, Bool.false_and, Bool.and_true, Bool.and_false, e1]) (by simp (maxSteps := 300000) (disch := omega) only [gs, gs2, gs3, ↓reduceIte, Nat.reduceEqDiff, Nat.mul_one, Nat.add_zero, Nat.zero_add, Nat.zero_mul, Int.toNat_natCast, Int.reduceToNat, Nat.reduceMul, Nat.reduceAdd, decide_true, decide_false, Bool.not_true, Bool.not_false, true_and, and_true, List.map_cons, List.map_nil, List.nil_append, List.cons_append, List.append_nil, Option.map_some, Option.bind_some, List.getElem?_cons_zero, List.getElem?_cons_succ, Bool.false_eq_true, not_true_eq_false, not_false_eq_true, List.contains_cons, List.contains_nil, Nat.reduceBEq, Bool.true_or, Bool.false_or, Bool.or_true, List.set_cons_zero, List.set_cons_succ, List.length_cons, List.length_nil, isLd, Bool.true_and, Bool.false_and, Bool.and_true, Bool.and_false, e2]) (by simp (maxSteps := 300000) (disch := omega) only [gs, gs2, gs3, ↓reduceIte, Nat.reduceEqDiff, Nat.mul_one, Nat.add_zero, Nat.zero_add, Nat.zero_mul, Int.toNat_natCast, Int.reduceToNat, Nat.reduceMul, Nat.reduceAdd, decide_true, decide_false, Bool.not_true, Bool.not_false, true_and, and_true, List.map_cons, List.map_nil, List.nil_append, List.cons_append, List.append_nil, Option.map_some, Option.bind_some, List.getElem?_cons_zero, List.getElem?_cons_succ, Bool.false_eq_true, not_true_eq_false, not_false_eq_true, List.contains_cons, List.contains_nil, Nat.reduceBEq, Bool.true_or, Bool.false_or, Bool.or_true, List.set_cons_zero, List.set_cons_succ, List.length_cons, List.length_nil, isLd, Bool.true_and, Bool.false_and, Bool.and_true, Bool.and_false, e8]) (by simp (maxSteps := 300000) (disch := omega) only [gs, gs2, gs3, ↓reduceIte, Nat.reduceEqDiff, Nat.mul_one, Nat.add_zero, Nat.zero_add, Nat.zero_mul, Int.toNat_natCast, Int.reduceToNat, Nat.reduceMul, Nat.reduceAdd, decide_true, decide_false, Bool.not_true, Bool.not_false, true_and, and_true, List.map_cons, List.map_nil, List.nil_append, List.cons_append, List.append_nil, Option.map_some, Option.bind_some, List.getElem?_cons_zero, List.getElem?_cons_succ, Bool.false_eq_true, not_true_eq_false, not_false_eq_true, List.contains_cons, List.contains_nil, Nat.reduceBEq, Bool.true_or, Bool.false_or, Bool.or_true, List.set_cons_zero, List.set_cons_succ, List.length_cons, List.length_nil, isLd, Bool.true_and, Bool.false_and, Bool.and_true, Bool.and_false, if_neg hit]; rw [Int.zero_sub]) (by simp (maxSteps := 300000) (disch := omega) only [gs, gs2, gs3, ↓reduceIte, Nat.reduceEqDiff, Nat.mul_one, Nat.add_zero, Nat.zero_add, Nat.zero_mul, Int.toNat_natCast, Int.reduceToNat, Nat.reduceMul, Nat.reduceAdd, decide_true, decide_false, Bool.not_true, Bool.not_false, true_and, and_true, List.map_cons, List.map_nil, List.nil_append, List.cons_append, List.append_nil, Option.map_some, Option.bind_some, List.getElem?_cons_zero, List.getElem?_cons_succ, Bool.false_eq_true, not_true_eq_false, not_false_eq_true, List.contains_cons, List.contains_nil, Nat.reduceBEq, Bool.true_or, Bool.false_or, Bool.or_true, List.set_cons_zero, List.set_cons_succ, List.length_cons, List.length_nil, isLd, Bool.true_and, Bool.false_and, Bool.and_true, Bool.and_false, e10]) (by simp (maxSteps := 300000) (disch := omega) only [gs, gs2, gs3, ↓reduceIte, Nat.reduceEqDiff, Nat.mul_one, Nat.add_zero, Nat.zero_add, Nat.zero_mul, Int.toNat_natCast, Int.reduceToNat, Nat.reduceMul, Nat.reduceAdd, decide_true, decide_false, Bool.not_true, Bool.not_false, true_and, and_true, List.map_cons, List.map_nil, List.nil_append, List.cons_append, List.append_nil, Option.map_some, Option.bind_some, List.getElem?_cons_zero, List.getElem?_cons_succ, Bool.false_eq_true, not_true_eq_false, not_false_eq_true, List.contains_cons, List.contains_nil, Nat.reduceBEq, Bool.true_or, Bool.false_or, Bool.or_true, List.set_cons_zero, List.set_cons_succ, List.length_cons, List.length_nil, isLd, Bool.true_and, Bool.false_and, Bool.and_true, Bool.and_false, e11]) (by simp (maxSteps := 300000) (disch := omega) only [gs, gs2, gs3, ↓reduceIte, Nat.reduceEqDiff, Nat.mul_one, Nat.add_zero, Nat.zero_add, Nat.zero_mul, Int.toNat_natCast, Int.reduceToNat, Nat.reduceMul, Nat.reduceAdd, decide_true, decide_false, Bool.not_true, Bool.not_false, true_and, and_true, List.map_cons, List.map_nil, List.nil_append, List.cons_append, List.append_nil, Option.map_some, Option.bind_some, List.getElem?_cons_zero, List.getElem?_cons_succ, Bool.false_eq_true, not_true_eq_false, not_false_eq_true, List.contains_cons, List.contains_nil, Nat.reduceBEq, Bool.true_or, Bool.false_or, Bool.or_true, List.set_cons_zero, List.set_cons_succ, List.length_cons, List.length_nil, isLd, Bool.true_and, Bool.false_and, Bool.and_true, Bool.and_false, e16]) (by simp (maxSteps := 300000) (disch := omega) only [gs, gs2, gs3, ↓reduceIte, Nat.reduceEqDiff, Nat.mul_one, Nat.add_zero, Nat.zero_add, Nat.zero_mul, Int.toNat_natCast, Int.reduceToNat, Nat.reduceMul, Nat.reduceAdd, decide_true, decide_false, Bool.not_true, Bool.not_false, true_and, and_true, List.map_cons, List.map_nil, List.nil_append, List.cons_append, List.append_nil, Option.map_some, Option.bind_some, List.getElem?_cons_zero, List.getElem?_cons_succ, Bool.false_eq_true, not_true_eq_false, not_false_eq_true, List.contains_cons, List.contains_nil, Nat.reduceBEq, Bool.true_or, Bool.false_or, Bool.or_true, List.set_cons_zero, List.set_cons_succ, List.length_cons, List.length_nil, isLd, Bool.true_and, Bool.false_and, Bool.and_true, Bool.and_false, e17]) (h2.cong fun a j _ _ => ?_) hO2 k2
  unfold setr swp
  by_cases e1 : (a : Int) = i
  · rw [if_pos e1, if_neg (by omega), if_pos e1]
  · by_cases e2 : (a : Int) = t
    · rw [if_neg e1, if_pos e2, if_pos e2]
    · rw [if_neg e1, if_neg e2, if_neg e2, if_neg e1]
theorem impl_eliminate_ok {H G : GH} {b cp : Nat} {A : Nat → Option Addr} {c : Nat → Nat} {R C : Nat} {f : Int → Int → Int} {rest : List Value} {p : Int} (h : Rw H G b A c R C f rest none) (hcp : R ≤ cp) (hR : R < 2 ^ 10) (hC : C < 2 ^ 10) (hr : Rng f p) (hp : 1 < p ∧ p ≤ 2 ^ 30) {K : Value → GH → Prop}
    (hk : ∀ G' A' c' Ap cq, Rw H G' b A' c' R C (elF p R f C).f rest Ap → IntS G' Ap cq (elF p R f C).piv → K (.tuple [.slice Ap (elF p R f C).piv.length cq, .int .i64 (elF p R f C).det].toArray) G') :
    GC Try.prog 231 [.slice (some ⟨b, 0, none⟩) R cp, .int .i64 C, .int .i64 p] G K := by
  refine c_impl_eliminate_i (by simp) ?_
  simp (maxSteps := 300000) (disch := omega) only [gs, gs2, gs3, ↓reduceIte, Nat.reduceEqDiff, Nat.mul_one, Nat.add_zero, Nat.zero_add, Nat.zero_mul, Int.toNat_natCast, Int.reduceToNat, Nat.reduceMul, Nat.reduceAdd, decide_true, decide_false, Bool.not_true, Bool.not_false, true_and, and_true, List.map_cons, List.map_nil, List.nil_append, List.cons_append, List.append_nil, Option.map_some, Option.bind_some, List.getElem?_cons_zero, List.getElem?_cons_succ, Bool.false_eq_true, not_true_eq_false, not_false_eq_true, List.contains_cons, List.contains_nil, Nat.reduceBEq, Bool.true_or, Bool.false_or, Bool.or_true, List.set_cons_zero, List.set_cons_succ, List.length_cons, List.length_nil, isLd, Bool.true_and, Bool.false_and, Bool.and_true, Bool.and_false]
  refine gLoop_intro (fun m T G' => ∃ (k : Nat) (A' : Nat → Option Addr) (c' : Nat → Nat) (Ap : Option Addr) (cq : Nat), T 0 = .slice (some ⟨b, 0, none⟩) R cp ∧ T 1 = .int .i64 C ∧ T 2 = .int .i64 p ∧ T 8 = .slice Ap (elF p R f k).piv.length cq ∧ T 9 = .int .i64 (elF p R f k).det ∧ T 16 = .int .i64 C ∧ T 17 = .int .i64 k ∧ m + k = C ∧ k ≤ C ∧
      Rw H G' b A' c' R C (elF p R f k).f rest Ap ∧ Own G' Ap cq ((elF p R f k).piv.map I64) 1 (elF p R f k).piv.length ∧ Off H Ap ∧ ∀ a, Ap = some a → a.block ≠ b)
    C ⟨0, A, c, none, 0, by simp (maxSteps := 300000) (disch := omega) only [gs, gs2, gs3, ↓reduceIte, Nat.reduceEqDiff, Nat.mul_one, Nat.add_zero, Nat.zero_add, Nat.zero_mul, Int.toNat_natCast, Int.reduceToNat, Nat.reduceMul, Nat.reduceAdd, decide_true, decide_false, Bool.not_true, Bool.not_false, true_and, and_true, List.map_cons, List.map_nil, List.nil_append, List.cons_append, List.append_nil, Option.map_some, Option.bind_some, List.getElem?_cons_zero, List.getElem?_cons_succ, Bool.false_eq_true, not_true_eq_false, not_false_eq_true, List.contains_cons, List.contains_nil, Nat.reduceBEq, Bool.true_or, Bool.false_or, Bool.or_true, List.set_cons_zero, List.set_cons_succ, List.length_cons, List.length_nil, isLd, Bool.true_and, Bool.false_and, Bool.and_true, Bool.and_false], by simp (maxSteps := 300000) (disch := omega) only [gs, gs2, gs3, ↓reduceIte, Nat.reduceEqDiff, Nat.mul_one, Nat.add_zero, Nat.zero_add, Nat.zero_mul, Int.toNat_natCast, Int.reduceToNat, Nat.reduceMul, Nat.reduceAdd, decide_true, decide_false, Bool.not_true, Bool.not_false, true_and, and_true, List.map_cons, List.map_nil, List.nil_append, List.cons_append, List.append_nil, Option.map_some, Option.bind_some, List.getElem?_cons_zero, List.getElem?_cons_succ, Bool.false_eq_true, not_true_eq_false, not_false_eq_true, List.contains_cons, List.contains_nil, Nat.reduceBEq, Bool.true_or, Bool.false_or, Bool.or_true, List.set_cons_zero, List.set_cons_succ, List.length_cons, List.length_nil, isLd, Bool.true_and, Bool.false_and, Bool.and_true, Bool.and_false], by simp (maxSteps := 300000) (disch := omega) only [gs, gs2, gs3, ↓reduceIte, Nat.reduceEqDiff, Nat.mul_one, Nat.add_zero, Nat.zero_add, Nat.zero_mul, Int.toNat_natCast, Int.reduceToNat, Nat.reduceMul, Nat.reduceAdd, decide_true, decide_false, Bool.not_true, Bool.not_false, true_and, and_true, List.map_cons, List.map_nil, List.nil_append, List.cons_append, List.append_nil, Option.map_some, Option.bind_some, List.getElem?_cons_zero, List.getElem?_cons_succ, Bool.false_eq_true, not_true_eq_false, not_false_eq_true, List.contains_cons, List.contains_nil, Nat.reduceBEq, Bool.true_or, Bool.false_or, Bool.or_true, List.set_cons_zero, List.set_cons_succ, List.length_cons, List.length_nil, isLd, Bool.true_and, Bool.false_and, Bool.and_true, Bool.and_false], by simp (maxSteps := 300000) (disch := omega) only [gs, gs2, gs3, ↓reduceIte, Nat.reduceEqDiff, Nat.mul_one, Nat.add_zero, Nat.zero_add, Nat.zero_mul, Int.toNat_natCast, Int.reduceToNat, Nat.reduceMul, Nat.reduceAdd, decide_true, decide_false, Bool.not_true, Bool.not_false, true_and, and_true, List.map_cons, List.map_nil, List.nil_append, List.cons_append, List.append_nil, Option.map_some, Option.bind_some, List.getElem?_cons_zero, List.getElem?_cons_succ, Bool.false_eq_true, not_true_eq_false, not_false_eq_true, List.contains_cons, List.contains_nil, Nat.reduceBEq, Bool.true_or, Bool.false_or, Bool.or_true, List.set_cons_zero, List.set_cons_succ, List.length_cons, List.length_nil, isLd, Bool.true_and, Bool.false_and, Bool.and_true, Bool.and_false] <;> rfl, by simp (maxSteps := 300000) (disch := omega) only [gs, gs2, gs3, ↓reduceIte, Nat.reduceEqDiff, Nat.mul_one, Nat.add_zero, Nat.zero_add, Nat.zero_mul, Int.toNat_natCast, Int.reduceToNat, Nat.reduceMul, Nat.reduceAdd, decide_true, decide_false, Bool.not_true, Bool.not_false, true_and, and_true, List.map_cons, List.map_nil, List.nil_append, List.cons_append, List.append_nil, Option.map_some, Option.bind_some, List.getElem?_cons_zero, List.getElem?_cons_succ, Bool.false_eq_true, not_true_eq_false, not_false_eq_true, List.contains_cons, List.contains_nil, Nat.reduceBEq, Bool.true_or, Bool.false_or, Bool.or_true, List.set_cons_zero, List.set_cons_succ, List.length_cons, List.length_nil, isLd, Bool.true_and, Bool.false_and, Bool.and_true, Bool.and_false] <;> rfl, by simp (maxSteps := 300000) (disch := omega) only [gs, gs2, gs3, ↓reduceIte, Nat.reduceEqDiff, Nat.mul_one, Nat.add_zero, Nat.zero_add, Nat.zero_mul, Int.toNat_natCast, Int.reduceToNat, Nat.reduceMul, Nat.reduceAdd, decide_true, decide_false, Bool.not_true, Bool.not_false, true_and, and_true, List.map_cons, List.map_nil, List.nil_append, List.cons_append, List.append_nil, Option.map_some, Option.bind_some, List.getElem?_cons_zero, List.getElem?_cons_succ, Bool.false_eq_true, not_true_eq_false, not_false_eq_true, List.contains_cons, List.contains_nil, Nat.reduceBEq, Bool.true_or, Bool.false_or, Bool.or_true, List.set_cons_zero, List.set_cons_succ, List.length_cons, List.length_nil, isLd, Bool.true_and, Bool.false_and, Bool.and_true, Bool.and_false], by simp (maxSteps := 300000) (disch := omega) only [gs, gs2, gs3, ↓reduceIte, Nat.reduceEqDiff, Nat.mul_one, Nat.add_zero, Nat.zero_add, Nat.zero_mul, Int.toNat_natCast, Int.reduceToNat, Nat.reduceMul, Nat.reduceAdd, decide_true, decide_false, Bool.not_true, Bool.not_false, true_and, and_true, List.map_cons, List.map_nil, List.nil_append, List.cons_append, List.append_nil, Option.map_some, Option.bind_some, List.getElem?_cons_zero, List.getElem?_cons_succ, Bool.false_eq_true, not_true_eq_false, not_false_eq_true, List.contains_cons, List.contains_nil, Nat.reduceBEq, Bool.true_or, Bool.false_or, Bool.or_true, List.set_cons_zero, List.set_cons_succ, List.length_cons, List.length_nil, isLd, Bool.true_and, Bool.false_and, Bool.and_true, Bool.and_false] <;> rfl, by omega, by omega, h, Own.nil _ _, Off.nil _, fun a ha => by cases ha⟩ ?_
  rintro m T G' ⟨k, A', c', Ap, cq, e0, e1, e2, e8, e9, e16, e17, hm, hkm, hw, hO, hOf, hda⟩
  have hrg := elF_rng (R := R) (by omega : 0 < p) hr k
  have hln := elF_len p R f k
  have hdt := elF_det hp.1 R f k
  have hstep : elF p R f (k + 1) = elS p R (elF p R f k) k := rfl
  simp (maxSteps := 300000) (disch := omega) only [gs, gs2, gs3, ↓reduceIte, Nat.reduceEqDiff, Nat.mul_one, Nat.add_zero, Nat.zero_add, Nat.zero_mul, Int.toNat_natCast, Int.reduceToNat, Nat.reduceMul, Nat.reduceAdd, decide_true, decide_false, Bool.not_true, Bool.not_false, true_and, and_true, List.map_cons, List.map_nil, List.nil_append, List.cons_append, List.append_nil, Option.map_some, Option.bind_some, List.getElem?_cons_zero, List.getElem?_cons_succ, Bool.false_eq_true, not_true_eq_false, not_false_eq_true, List.contains_cons, List.contains_nil, Nat.reduceBEq, Bool.true_or, Bool.false_or, Bool.or_true, List.set_cons_zero, List.set_cons_succ, List.length_cons, List.length_nil, isLd, Bool.true_and, Bool.false_and, Bool.and_true, Bool.and_false, e0, e1, e2, e8, e9, e16, e17]
  by_cases hkk : (k : Int) < C
  rotate_left
  · simp (maxSteps := 300000) (disch := omega) only [gs, gs2, gs3, ↓reduceIte, Nat.reduceEqDiff, Nat.mul_one, Nat.add_zero, Nat.zero_add, Nat.zero_mul, Int.toNat_natCast, Int.reduceToNat, Nat.reduceMul, Nat.reduceAdd, decide_true, decide_false, Bool.not_true, Bool.not_false, true_and, and_true, List.map_cons, List.map_nil, List.nil_append, List.cons_append, List.append_nil, Option.map_some, Option.bind_some, List.getElem?_cons_zero, List.getElem?_cons_succ, Bool.false_eq_true, not_true_eq_false, not_false_eq_true, List.contains_cons, List.contains_nil, Nat.reduceBEq, Bool.true_or, Bool.false_or, Bool.or_true, List.set_cons_zero, List.set_cons_succ, List.length_cons, List.length_nil, isLd, Bool.true_and, Bool.false_and, Bool.and_true, Bool.and_false, e0, e1, e2, e8, e9, e16, e17, hkk]
    obtain rfl : k = C := by omega
    exact hk _ _ _ _ _ hw hO.ints
  generalize elF p R f k = S at *
  simp (maxSteps := 300000) (disch := omega) only [gs, gs2, gs3, ↓reduceIte, Nat.reduceEqDiff, Nat.mul_one, Nat.add_zero, Nat.zero_add, Nat.zero_mul, Int.toNat_natCast, Int.reduceToNat, Nat.reduceMul, Nat.reduceAdd, decide_true, decide_false, Bool.not_true, Bool.not_false, true_and, and_true, List.map_cons, List.map_nil, List.nil_append, List.cons_append, List.append_nil, Option.map_some, Option.bind_some, List.getElem?_cons_zero, List.getElem?_cons_succ, Bool.false_eq_true, not_true_eq_false, not_false_eq_true, List.contains_cons, List.contains_nil, Nat.reduceBEq, Bool.true_or, Bool.false_or, Bool.or_true, List.set_cons_zero, List.set_cons_succ, List.length_cons, List.length_nil, isLd, Bool.true_and, Bool.false_and, Bool.and_true, Bool.and_false, e0, e1, e2, e8, e9, e16, e17, hkk]
  intro b10 hb10
  simp (maxSteps := 300000) (disch := omega) only [gs, gs2, gs3, ↓reduceIte, Nat.reduceEqDiff, Nat.mul_one, Nat.add_zero, Nat.zero_add, Nat.zero_mul, Int.toNat_natCast, Int.reduceToNat, Nat.reduceMul, Nat.reduceAdd, decide_true, decide_false, Bool.not_true, Bool.not_false, true_and, and_true, List.map_cons, List.map_nil, List.nil_append, List.cons_append, List.append_nil, Option.map_some, Option.bind_some, List.getElem?_cons_zero, List.getElem?_cons_succ, Bool.false_eq_true, not_true_eq_false, not_false_eq_true, List.contains_cons, List.contains_nil, Nat.reduceBEq, Bool.true_or, Bool.false_or, Bool.or_true, List.set_cons_zero, List.set_cons_succ, List.length_cons, List.length_nil, isLd, Bool.true_and, Bool.false_and, Bool.and_true, Bool.and_false, e0, e1, e2, e8, e9, e16, e17]
  refine st_one (put_same _ _ _) (by simp) rfl ?_
  rw [put_put', show List.set [Value.int .i64 0] 0 (.int .i64 (k : Int)) = [.int .i64 (k : Int)] from rfl]
  have s10 := Sub.put hb10 ⟨[.int .i64 (k : Int)], true⟩
  have k10 : rd (put G' b10 ⟨[.int .i64 (k : Int)], true⟩) (some ⟨b10, 0, none⟩) = some (.int .i64 (k : Int)) := rd_box _ _ _ 0 _ rfl
  have n10 : b10 ≠ b := (blk_ne hw.blk hb10).symm
  have hw := hw.up s10
  have hO := hO.sub s10
  have kd : rd (del (put G' b10 ⟨[.int .i64 (k : Int)], true⟩) b) (some ⟨b10, 0, none⟩) = some (.int .i64 (k : Int)) := by
    simp only [rd]; rw [del_ne _ n10, put_same]; rfl
  revert k10 hw hO kd
  generalize put G' b10 ⟨[.int .i64 (k : Int)], true⟩ = G2
  intro k10 hw hO kd
  simp (maxSteps := 300000) (disch := omega) only [gs, gs2, gs3, ↓reduceIte, Nat.reduceEqDiff, Nat.mul_one, Nat.add_zero, Nat.zero_add, Nat.zero_mul, Int.toNat_natCast, Int.reduceToNat, Nat.reduceMul, Nat.reduceAdd, decide_true, decide_false, Bool.not_true, Bool.not_false, true_and, and_true, List.map_cons, List.map_nil, List.nil_append, List.cons_append, List.append_nil, Option.map_some, Option.bind_some, List.getElem?_cons_zero, List.getElem?_cons_succ, Bool.false_eq_true, not_true_eq_false, not_false_eq_true, List.contains_cons, List.contains_nil, Nat.reduceBEq, Bool.true_or, Bool.false_or, Bool.or_true, List.set_cons_zero, List.set_cons_succ, List.length_cons, List.length_nil, isLd, Bool.true_and, Bool.false_and, Bool.and_true, Bool.and_false, e0, e1, e2, e8, e9, e16, e17, k10, Option.map_none, sl_top hln.1 hcp]
  obtain ⟨Y, d', hY, hYe⟩ : ∃ Y d', (if cp = S.piv.length then Value.slice (some ⟨b, 0, none⟩) (R - S.piv.length) (cp - S.piv.length) else Value.slice (some ⟨b, S.piv.length, none⟩) (R - S.piv.length) (cp - S.piv.length)) = .slice Y (R - S.piv.length) d' ∧ (S.piv.length < R → Y = some ⟨b, S.piv.length, none⟩) := by
    by_cases e : cp = S.piv.length
    · exact ⟨_, _, if_pos e, fun x => by omega⟩
    · exact ⟨_, _, if_neg e, fun _ => rfl⟩
  rw [hY]
  refine slices_IndexFuncS_ok (col := (k : Int)) hw hYe hln.1 (by omega) (fun i hi K' hK' => ?_) (fun hno => ?_) fun i hi1 hi2 hi3 hi4 => ?_
  · simp (maxSteps := 300000) (disch := omega) only [gs, gs2, gs3, ↓reduceIte, Nat.reduceEqDiff, Nat.mul_one, Nat.add_zero, Nat.zero_add, Nat.zero_mul, Int.toNat_natCast, Int.reduceToNat, Nat.reduceMul, Nat.reduceAdd, decide_true, decide_false, Bool.not_true, Bool.not_false, true_and, and_true, List.map_cons, List.map_nil, List.nil_append, List.cons_append, List.append_nil, Option.map_some, Option.bind_some, List.getElem?_cons_zero, List.getElem?_cons_succ, Bool.false_eq_true, not_true_eq_false, not_false_eq_true, List.contains_cons, List.contains_nil, Nat.reduceBEq, Bool.true_or, Bool.false_or, Bool.or_true, List.set_cons_zero, List.set_cons_succ, List.length_cons, List.length_nil, isLd, Bool.true_and, Bool.false_and, Bool.and_true, Bool.and_false]
    refine c_impl_eliminate_fn1_i (by simp) ?_
    have hc := hw.cell hi (j := k) (by omega)
    have hs := hw.sn hi (by omega)
    simp (maxSteps := 300000) (disch := omega) only [gs, gs2, gs3, ↓reduceIte, Nat.reduceEqDiff, Nat.mul_one, Nat.add_zero, Nat.zero_add, Nat.zero_mul, Int.toNat_natCast, Int.reduceToNat, Nat.reduceMul, Nat.reduceAdd, decide_true, decide_false, Bool.not_true, Bool.not_false, true_and, and_true, List.map_cons, List.map_nil, List.nil_append, List.cons_append, List.append_nil, Option.map_some, Option.bind_some, List.getElem?_cons_zero, List.getElem?_cons_succ, Bool.false_eq_true, not_true_eq_false, not_false_eq_true, List.contains_cons, List.contains_nil, Nat.reduceBEq, Bool.true_or, Bool.false_or, Bool.or_true, List.set_cons_zero, List.set_cons_succ, List.length_cons, List.length_nil, isLd, Bool.true_and, Bool.false_and, Bool.and_true, Bool.and_false, k10, hc]
    exact hK'
  · simp (maxSteps := 300000) (disch := omega) only [gs, gs2, gs3, ↓reduceIte, Nat.reduceEqDiff, Nat.mul_one, Nat.add_zero, Nat.zero_add, Nat.zero_mul, Int.toNat_natCast, Int.reduceToNat, Nat.reduceMul, Nat.reduceAdd, decide_true, decide_false, Bool.not_true, Bool.not_false, true_and, and_true, List.map_cons, List.map_nil, List.nil_append, List.cons_append, List.append_nil, Option.map_some, Option.bind_some, List.getElem?_cons_zero, List.getElem?_cons_succ, Bool.false_eq_true, not_true_eq_false, not_false_eq_true, List.contains_cons, List.contains_nil, Nat.reduceBEq, Bool.true_or, Bool.false_or, Bool.or_true, List.set_cons_zero, List.set_cons_succ, List.length_cons, List.length_nil, isLd, Bool.true_and, Bool.false_and, Bool.and_true, Bool.and_false, e0, e1, e2, e8, e9, e16, e17, show ((-1 : Int) < 0) = True from eq_true (by omega)]
    have hS : elS p R S k = ⟨S.f, S.piv, 0⟩ := by unfold elS; rw [fstRow_none hno]
    rw [hS] at hstep
    refine ⟨m - 1, by omega, G2, Sub.refl _, k + 1, A', c', Ap, cq, by rw [hstep], by rw [hstep], rfl, by omega, by omega, by rw [hstep]; exact hw, by rw [hstep]; exact hO, hOf, hda⟩
  · have hS : elS p R S k = ⟨clr (scl (swp S.f S.piv.length i) S.piv.length (invF (swp S.f S.piv.length i S.piv.length k) p) p) S.piv.length k p, S.piv ++ [(k : Int)], (if i = S.piv.length then S.det else (-S.det) % p) * swp S.f S.piv.length i S.piv.length k % p⟩ := by unfold elS; rw [fstRow_some hi1 hi2 hi3 hi4]
    rw [hS] at hstep
    have hsw : swp S.f S.piv.length i S.piv.length = S.f i := by unfold swp; rw [if_pos rfl]
    simp (maxSteps := 300000) (disch := omega) only [gs, gs2, gs3, ↓reduceIte, Nat.reduceEqDiff, Nat.mul_one, Nat.add_zero, Nat.zero_add, Nat.zero_mul, Int.toNat_natCast, Int.reduceToNat, Nat.reduceMul, Nat.reduceAdd, decide_true, decide_false, Bool.not_true, Bool.not_false, true_and, and_true, List.map_cons, List.map_nil, List.nil_append, List.cons_append, List.append_nil, Option.map_some, Option.bind_some, List.getElem?_cons_zero, List.getElem?_cons_succ, Bool.false_eq_true, not_true_eq_false, not_false_eq_true, List.contains_cons, List.contains_nil, Nat.reduceBEq, Bool.true_or, Bool.false_or, Bool.or_true, List.set_cons_zero, List.set_cons_succ, List.length_cons, List.length_nil, isLd, Bool.true_and, Bool.false_and, Bool.and_true, Bool.and_false, e0, e1, e2, e8, e9, e16, e17]
    rw [decide_eq_false (show ¬ ((i - S.piv.length : Nat) : Int) < 0 by omega)]
    refine el_swap (X := elTail) (cp := cp) (k := k) (t := S.piv.length) (i := i) hw hR hp hi1 hi2 hdt kd hO hda (by simp (maxSteps := 300000) (disch := omega) only [gs, gs2, gs3, ↓reduceIte, Nat.reduceEqDiff, Nat.mul_one, Nat.add_zero, Nat.zero_add, Nat.zero_mul, Int.toNat_natCast, Int.reduceToNat, Nat.reduceMul, Nat.reduceAdd, decide_true, decide_false, Bool.not_true, Bool.not_false, true_and, and_true, List.map_cons, List.map_nil, List.nil_append, List.cons_append, List.append_nil, Option.map_some, Option.bind_some, List.getElem?_cons_zero, List.getElem?_cons_succ, Bool.false_eq_true, not_true_eq_false, not_false_eq_true, List.contains_cons, List.contains_nil, Nat.reduceBEq, Bool.true_or, Bool.false_or, Bool.or_true, List.set_cons_zero, List.set_cons_succ, List.length_cons, List.length_nil, isLd, Bool.true_and, Bool.false_and, Bool.and_true, Bool.and_false, e0]) (by simp (maxSteps := 300000) (disch := omega) only [gs, gs2, gs3, ↓reduceIte, Nat.reduceEqDiff, Nat.mul_one, Nat.add_zero, Nat.zero_add, Nat.zero_mul, Int.toNat_natCast, Int.reduceToNat, Nat.reduceMul, Nat.reduceAdd, decide_true, decide_false, Bool.not_true, Bool.not_false, true_and, and_true, List.map_cons, List.map_nil, List.nil_append, List.cons_append, List.append_nil, Option.map_some, Option.bind_some, List.getElem?_cons_zero, List.getElem?_cons_succ, Bool.false_eq_true, not_true_eq_false, not_false_eq_true, List.contains_cons, List.contains_nil, Nat.reduceBEq, Bool.true_or, Bool.false_or, Bool.or_true, List.set_cons_zero, List.set_cons_succ, List.length_cons, List.length_nil, isLd, Bool.true_and, Bool.false_and, Bool.and_true, Bool.and_false, e1]) (by simp (maxSteps := 300000) (disch := omega) only [gs, gs2, gs3, ↓reduceIte, Nat.reduceEqDiff, Nat.mul_one, Nat.add_zero, Nat.zero_add, Nat.zero_mul, Int.toNat_natCast, Int.reduceToNat, Nat.reduceMul, Nat.reduceAdd, decide_true, decide_false, Bool.not_true, Bool.not_false, true_and, and_true, List.map_cons, List.map_nil, List.nil_append, List.cons_append, List.append_nil, Option.map_some, Option.bind_some, List.getElem?_cons_zero, List.getElem?_cons_succ, Bool.false_eq_true, not_true_eq_false, not_false_eq_true, List.contains_cons, List.contains_nil, Nat.reduceBEq, Bool.true_or, Bool.false_or, Bool.or_true, List.set_cons_zero, List.set_cons_succ, List.length_cons, List.length_nil, isLd, Bool.true_and, Bool.false_and, Bool.and_true, Bool.and_false, e2]) (by simp (maxSteps := 300000) (disch := omega) only [gs, gs2, gs3, ↓reduceIte, Nat.reduceEqDiff, Nat.mul_one, Nat.add_zero, Nat.zero_add, Nat.zero_mul, Int.toNat_natCast, Int.reduceToNat, Nat.reduceMul, Nat.reduceAdd, decide_true, decide_false, Bool.not_true, Bool.not_false, true_and, and_true, List.map_cons, List.map_nil, List.nil_append, List.cons_append, List.append_nil, Option.map_some, Option.bind_some, List.getElem?_cons_zero, List.getElem?_cons_succ, Bool.false_eq_true, not_true_eq_false, not_false_eq_true, List.contains_cons, List.contains_nil, Nat.reduceBEq, Bool.true_or, Bool.false_or, Bool.or_true, List.set_cons_zero, List.set_cons_succ, List.length_cons, List.length_nil, isLd, Bool.true_and, Bool.false_and, Bool.and_true, Bool.and_false, e8]) (by simp (maxSteps := 300000) (disch := omega) only [gs, gs2, gs3, ↓reduceIte, Nat.reduceEqDiff, Nat.mul_one, Nat.add_zero, Nat.zero_add, Nat.zero_mul, Int.toNat_natCast, Int.reduceToNat, Nat.reduceMul, Nat.reduceAdd, decide_true, decide_false, Bool.not_true, Bool.not_false, true_and, and_true, List.map_cons, List.map_nil, List.nil_append, List.cons_append, List.append_nil, Option.map_some, Option.bind_some, List.getElem?_cons_zero, List.getElem?_cons_succ, Bool.false_eq_true, not_true_eq_false, not_false_eq_true, List.contains_cons, List.contains_nil, Nat.reduceBEq, Bool.true_or, Bool.false_or, Bool.or_true, List.set_cons_zero, List.set_cons_succ, List.length_cons, List.length_nil, isLd, Bool.true_and, Bool.false_and, Bool.and_true, Bool.and_false, e9]) (by simp (maxSteps := 300000) (disch := omega) only [gs, gs2, gs3, ↓reduceIte, Nat.reduceEqDiff, Nat.mul_one, Nat.add_zero, Nat.zero_add, Nat.zero_mul, Int.toNat_natCast, Int.reduceToNat, Nat.reduceMul, Nat.reduceAdd, decide_true, decide_false, Bool.not_true, Bool.not_false, true_and, and_true, List.map_cons, List.map_nil, List.nil_append, List.cons_append, List.append_nil, Option.map_some, Option.bind_some, List.getElem?_cons_zero, List.getElem?_cons_succ, Bool.false_eq_true, not_true_eq_false, not_false_eq_true, List.contains_cons, List.contains_nil, Nat.reduceBEq, Bool.true_or, Bool.false_or, Bool.or_true, List.set_cons_zero, List.set_cons_succ, List.length_cons, List.length_nil, isLd, Bool.true_and, Bool.false_and, Bool.and_true, Bool.and_false]) (by simp (maxSteps := 300000) (disch := omega) only [gs, gs2, gs3, ↓reduceIte, Nat.reduceEqDiff, Nat.mul_one, Nat.add_zero, Nat.zero_add, Nat.zero_mul, Int.toNat_natCast, Int.reduceToNat, Nat.reduceMul, Nat.reduceAdd, decide_true, decide_false, Bool.not_true, Bool.not_false, true_and, and_true, List.map_cons, List.map_nil, List.nil_append, List.cons_append, List.append_nil, Option.map_some, Option.bind_some, List.getElem?_cons_zero, List.getElem?_cons_succ, Bool.false_eq_true, not_true_eq_false, not_false_eq_true, List.contains_cons, List.contains_nil, Nat.reduceBEq, Bool.true_or, Bool.false_or, Bool.or_true, List.set_cons_zero, List.set_cons_succ, List.length_cons, List.length_nil, isLd, Bool.true_and, Bool.false_and, Bool.and_true, Bool.and_false]) (by simp (maxSteps := 300000) (disch := omega) only [gs, gs2, gs3, ↓reduceIte, Nat.reduceEqDiff, Nat.mul_one, Nat.add_zero, Nat.zero_add, Nat.zero_mul, Int.toNat_natCast, Int.reduceToNat, Nat.reduceMul, Nat.reduceAdd, decide_true, decide_false, Bool.not_true, Bool.not_false, true_and, and_true, List.map_cons, List.map_nil, List.nil_append, List.cons_append, List.append_nil, Option.map_some, Option.bind_some, List.getElem?_cons_zero, List.getElem?_cons_succ, Bool.false_eq_true, not_true_eq_false, not_false_eq_true, List.contains_cons, List.contains_nil, Nat.reduceBEq, Bool.true_or, Bool.false_or, Bool.or_true, List.set_cons_zero, List.set_cons_succ, List.length_cons, List.length_nil, isLd, Bool.true_and, Bool.false_and, Bool.and_true, Bool.and_false]) (by simp (maxSteps := 300000) (disch := omega) only [gs, gs2, gs3, ↓reduceIte, Nat.reduceEqDiff, Nat.mul_one, Nat.add_zero, Nat.zero_add, Nat.zero_mul, Int.toNat_natCast, Int.reduceToNat, Nat.reduceMul, Nat.reduceAdd, decide_true, decide_false, Bool.not_true, Bool.not_false, true_and, and_true, List.map_cons, List.map_nil, List.nil_append, List.cons_append, List.append_nil, Option.map_some, Option.bind_some, List.getElem?_cons_zero, List.getElem?_cons_succ, Bool.false_eq_true, not_true_eq_false, not_false_eq_true, List.contains_cons, List.contains_nil, Nat.reduceBEq, Bool.true_or, Bool.false_or, Bool.or_true, List.set_cons_zero, List.set_cons_succ, List.length_cons, List.length_nil, isLd, Bool.true_and, Bool.false_and, Bool.and_true, Bool.and_false, e16]) (by simp (maxSteps := 300000) (disch := omega) only [gs, gs2, gs3, ↓reduceIte, Nat.reduceEqDiff, Nat.mul_one, Nat.add_zero, Nat.zero_add, Nat.zero_mul, Int.toNat_natCast, Int.reduceToNat, Nat.reduceMul, Nat.reduceAdd, decide_true, decide_false, Bool.not_true, Bool.not_false, true_and, and_true, List.map_cons, List.map_nil, List.nil_append, List.cons_append, List.append_nil, Option.map_some, Option.bind_some, List.getElem?_cons_zero, List.getElem?_cons_succ, Bool.false_eq_true, not_true_eq_false, not_false_eq_true, List.contains_cons, List.contains_nil, Nat.reduceBEq, Bool.true_or, Bool.false_or, Bool.or_true, List.set_cons_zero, List.set_cons_succ, List.length_cons, List.length_nil, isLd, Bool.true_and, Bool.false_and, Bool.and_true, Bool.and_false, e17]) fun T2 G3 A3 c3 f0 f1 f2 f8 f9 f10 f11 f16 f17 hw3 hO3 kd3 => ?_
    have hd3 : 0 ≤ (if i = S.piv.length then S.det else (-S.det) % p) ∧ (if i = S.piv.length then S.det else (-S.det) % p) < p := by
      split
      · exact hdt
      · exact ⟨Int.emod_nonneg _ (by omega), Int.emod_lt_of_pos _ (by omega)⟩
    refine el_tail (cp := cp) (k := k) (t := S.piv.length) (g := swp S.f S.piv.length i) hw3 hR hC (hrg.swp _ _) hp (by omega) (by omega) hd3 (by rw [hsw]; exact hi3) kd3 hO3 hOf hda (by omega) f0 f1 f2 f8 f9 f10 f11 f16 f17 fun T4 G4 A4 c4 Ap4 cq4 g0 g1 g2 g8 g9 g16 g17 hw4 hO4 oH4 d4 => ?_
    simp (maxSteps := 300000) (disch := omega) only [gs, gs2, gs3, ↓reduceIte, Nat.reduceEqDiff, Nat.mul_one, Nat.add_zero, Nat.zero_add, Nat.zero_mul, Int.toNat_natCast, Int.reduceToNat, Nat.reduceMul, Nat.reduceAdd, decide_true, decide_false, Bool.not_true, Bool.not_false, true_and, and_true, List.map_cons, List.map_nil, List.nil_append, List.cons_append, List.append_nil, Option.map_some, Option.bind_some, List.getElem?_cons_zero, List.getElem?_cons_succ, Bool.false_eq_true, not_true_eq_false, not_false_eq_true, List.contains_cons, List.contains_nil, Nat.reduceBEq, Bool.true_or, Bool.false_or, Bool.or_true, List.set_cons_zero, List.set_cons_succ, List.length_cons, List.length_nil, isLd, Bool.true_and, Bool.false_and, Bool.and_true, Bool.and_false, g0, g1, g2, g8, g9, g16, g17]
    refine ⟨m - 1, by omega, G4, Sub.refl _, k + 1, A4, c4, Ap4, cq4, ?_, ?_, rfl, by omega, by omega, by rw [hstep]; exact hw4, ?_, oH4, d4⟩
    · rw [hstep]; simp
    · rw [hstep]
    · rw [hstep]; exact hO4.cast rfl (by simp)
def pr (g : Nat → Int) : Nat → Int
  | 0 => 1
  | n + 1 => pr g n * g n
theorem sm_head (g : Nat → Int) : ∀ n, sm g (n + 1) = g 0 + sm (fun i => g (i + 1)) n
  | 0 => by simp [sm]
  | n + 1 => by
    show sm g (n + 1) + g (n + 1) = g 0 + (sm (fun i => g (i + 1)) n + g (n + 1))
    rw [sm_head g n]; omega
theorem pr_head (g : Nat → Int) : ∀ n, pr g (n + 1) = g 0 * pr (fun i => g (i + 1)) n
  | 0 => by simp [pr]
  | n + 1 => by
    show pr g (n + 1) * g (n + 1) = g 0 * (pr (fun i => g (i + 1)) n * g (n + 1))
    rw [pr_head g n, Int.mul_assoc]
theorem pr_nonneg {g : Nat → Int} : ∀ n, (∀ i, i < n → 0 ≤ g i) → 0 ≤ pr g n
  | 0, _ => (by decide : (0 : Int) ≤ 1)
  | n + 1, h => Int.mul_nonneg (pr_nonneg n fun i hi => h i (by omega)) (h n (by omega))
theorem pr_le {g h : Nat → Int} : ∀ n, (∀ i, i < n → 0 ≤ g i ∧ g i ≤ h i) → pr g n ≤ pr h n
  | 0, _ => Int.le_refl _
  | n + 1, hh => by
    have h1 := pr_le n fun i hi => hh i (by omega)
    have h2 := pr_nonneg (g := g) n fun i hi => (hh i (by omega)).1
    have h3 := hh n (by omega)
    exact Int.mul_le_mul h1 h3.2 h3.1 (Int.le_trans h2 h1)
theorem pr_scale (g : Nat → Int) (a : Int) : ∀ n, pr (fun i => a * g i) n = a ^ n * pr g n
  | 0 => by simp [pr]
  | n + 1 => by
    show pr (fun i => a * g i) n * (a * g n) = a ^ (n + 1) * (pr g n * g n)
    rw [pr_scale g a n, Int.pow_succ]
    rw [Int.mul_assoc (a ^ n), Int.mul_assoc (a ^ n), Int.mul_left_comm (pr g n) a]
/-- the diagonal outweighs the rest, which is not positive. -/
def Dom (n : Nat) (f : Int → Int → Int) : Prop := ∀ i : Nat, i < n → (∀ j : Nat, j < n → j ≠ i → f i j ≤ 0) ∧ 0 ≤ sm (fun j => f i j) n
theorem sm_le {g h : Nat → Int} : ∀ n, (∀ i, i < n → g i ≤ h i) → sm g n ≤ sm h n
  | 0, _ => Int.le_refl _
  | n + 1, hh => Int.add_le_add (sm_le n fun i hi => hh i (by omega)) (hh n (by omega))
theorem sm_zero : ∀ n, sm (fun _ => 0) n = 0
  | 0 => rfl
  | n + 1 => by show sm (fun _ => 0) n + 0 = 0; rw [sm_zero n]; rfl
theorem sm_one {g : Nat → Int} {i : Nat} (hg : ∀ j, j ≠ i → g j = 0) : ∀ n, sm g n = if i < n then g i else 0
  | 0 => by simp [sm]
  | n + 1 => by
    show sm g n + g n = _
    rw [sm_one hg n]
    by_cases h : n = i
    · subst h; simp
    · rw [hg n h]
      by_cases h2 : i < n
      · rw [if_pos h2, if_pos (by omega)]; omega
      · rw [if_neg h2, if_neg (by omega)]; omega
theorem Dom.diag {n : Nat} {f : Int → Int → Int} (h : Dom n f) {i : Nat} (hi : i < n) : 0 ≤ f i i := by
  have h1 := (h i hi).2
  have h2 := sm_le (g := fun j => f i j) (h := fun j => if j = i then f i i else 0) n fun j hj => by
    try dsimp only
    by_cases e : j = i
    · rw [if_pos e, e]; exact Int.le_refl _
    · rw [if_neg e]; exact (h i hi).1 j hj e
  rw [sm_one (i := i) (fun j hj => if_neg hj) n, if_pos hi, if_pos rfl] at h2
  omega
theorem Dom.zrow {n : Nat} {f : Int → Int → Int} (h : Dom n f) {i : Nat} (hi : i < n) (h0 : f i i = 0) {k : Nat} (hk : k < n) : f i k = 0 := by
  by_cases e : k = i
  · rw [e]; exact h0
  · have h1 := (h i hi).2
    have h2 := sm_le (g := fun j => f i j) (h := fun j => if j = k then f i k else 0) n fun j hj => by
      try dsimp only
      by_cases e2 : j = k
      · rw [if_pos e2, e2]; exact Int.le_refl _
      · rw [if_neg e2]
        by_cases e3 : j = i
        · rw [e3, h0]; exact Int.le_refl _
        · exact (h i hi).1 j hj e3
    rw [sm_one (i := k) (fun j hj => if_neg hj) n, if_pos hk, if_pos rfl] at h2
    have := (h i hi).1 k hk e
    omega
theorem sm_lin2 (g h : Nat → Int) (a c : Int) : ∀ n, sm (fun j => a * g j - c * h j) n = a * sm g n - c * sm h n
  | 0 => by simp [sm]
  | n + 1 => by
    show sm (fun j => a * g j - c * h j) n + (a * g n - c * h n) = a * (sm g n + g n) - c * (sm h n + h n)
    rw [sm_lin2 g h a c n, Int.mul_add, Int.mul_add]; omega
/-- what is left after the first row and column. -/
def schur (f : Int → Int → Int) : Int → Int → Int := fun i j => f 0 0 * f (i + 1) (j + 1) - f (i + 1) 0 * f 0 (j + 1)
theorem mul_np {a b : Int} (ha : 0 ≤ a) (hb : b ≤ 0) : a * b ≤ 0 := Int.mul_nonpos_of_nonneg_of_nonpos ha hb
theorem mul_nn {a b : Int} (ha : a ≤ 0) (hb : b ≤ 0) : 0 ≤ a * b := Int.mul_nonneg_of_nonpos_of_nonpos ha hb
theorem Dom.schur {n : Nat} {f : Int → Int → Int} (h : Dom (n + 1) f) : Dom n (Gh.schur f) := fun i hi => by
  have ha := h.diag (i := 0) (by omega)
  have hi1 := h (i + 1) (by omega)
  have h0 := h 0 (by omega)
  have hc : f ((i + 1 : Nat) : Int) ((0 : Nat) : Int) ≤ 0 := hi1.1 0 (by omega) (by omega)
  refine ⟨fun j hj hne => ?_, ?_⟩
  · have e1 : f ((i + 1 : Nat) : Int) ((j + 1 : Nat) : Int) ≤ 0 := hi1.1 (j + 1) (by omega) (by omega)
    have e2 : f ((0 : Nat) : Int) ((j + 1 : Nat) : Int) ≤ 0 := h0.1 (j + 1) (by omega) (by omega)
    have e3 := mul_np ha e1
    have e4 := mul_nn hc e2
    show f 0 0 * f ((i : Int) + 1) ((j : Int) + 1) - f ((i : Int) + 1) 0 * f 0 ((j : Int) + 1) ≤ 0
    simp only [Int.natCast_add, Int.natCast_one, Int.natCast_zero] at e3 e4
    omega
  · have e1 := hi1.2
    have e2 := h0.2
    rw [sm_head] at e1 e2
    show 0 ≤ sm (fun j => f 0 0 * f ((i : Int) + 1) ((j : Int) + 1) - f ((i : Int) + 1) 0 * f 0 ((j : Int) + 1)) n
    rw [sm_lin2 (fun j => f ((i : Int) + 1) ((j : Int) + 1)) (fun j => f 0 ((j : Int) + 1)) (f 0 0) (f ((i : Int) + 1) 0)]
    simp only [Int.natCast_add, Int.natCast_one, Int.natCast_zero] at e1 e2 hc ha
    generalize sm (fun j : Nat => f ((i : Int) + 1) ((j : Int) + 1)) n = S at *
    generalize sm (fun j : Nat => f 0 ((j : Int) + 1)) n = Z at *
    generalize f ((i : Int) + 1) 0 = c at *
    generalize f 0 0 = a at *
    have k1 : a * (-c) ≤ a * S := Int.mul_le_mul_of_nonneg_left (by omega) ha
    have k2 : (-c) * (-a) ≤ (-c) * Z := Int.mul_le_mul_of_nonneg_left (by omega) (by omega)
    rw [Int.mul_neg] at k1
    rw [Int.neg_mul_neg, Int.neg_mul, Int.mul_comm c a] at k2
    omega
/-- all rows but the first are multiplied. -/
theorem dt_scaleAll {n : Nat} (f : Int → Int → Int) (a : Int) : ∀ m, m < n → dt n (fun i j => if 1 ≤ i ∧ i ≤ (m : Nat) then a * f i j else f i j) = a ^ m * dt n f
  | 0, _ => by
    rw [Int.pow_zero, Int.one_mul]
    exact dt_congr n fun i j _ _ => if_neg (by omega)
  | m + 1, hm => by
    have ih := dt_scaleAll (n := n) f a m (by omega)
    have h2 := dt_scale (fun i j => if 1 ≤ i ∧ i ≤ (m : Nat) then a * f i j else f i j) (r := m + 1) hm a
    rw [ih] at h2
    rw [show a ^ (m + 1) * dt n f = a * (a ^ m * dt n f) by rw [Int.pow_succ, Int.mul_comm (a ^ m), Int.mul_assoc], ← h2]
    refine dt_congr n fun i j hi hj => ?_
    unfold setr
    show (if 1 ≤ (i : Int) ∧ (i : Int) ≤ ((m + 1 : Nat) : Int) then a * f i j else f i j) = _
    by_cases c : (i : Int) = ((m + 1 : Nat) : Int)
    · rw [if_pos c, if_pos (by omega)]
      try dsimp only
      rw [if_neg (by omega), c]
    · rw [if_neg c]
      show _ = if 1 ≤ (i : Int) ∧ (i : Int) ≤ (m : Nat) then a * f i j else f i j
      by_cases c2 : 1 ≤ (i : Int) ∧ (i : Int) ≤ (m : Nat)
      · rw [if_pos c2, if_pos (by omega)]
      · rw [if_neg c2, if_neg (by omega)]
theorem dt_schur (n : Nat) (f : Int → Int → Int) : f 0 0 ^ n * dt (n + 1) f = f 0 0 * dt n (schur f) := by
  have h1 := dt_scaleAll (n := n + 1) f (f 0 0) n (by omega)
  have h2 := dt_clear (n := n + 1) (fun i j => if 1 ≤ i ∧ i ≤ (n : Nat) then f 0 0 * f i j else f i j) (fun i => -f i 0) (by omega) (n + 1) (Nat.le_refl _)
  rw [← h1, ← h2, dt_col]
  · try dsimp only
    rw [if_neg (by omega), if_neg (by omega)]
    congr 1
    refine dt_congr n fun i j hi hj => ?_
    unfold dlr schur
    try dsimp only
    rw [if_neg (show ¬ (i : Int) < 0 by omega), if_pos (by omega), if_pos (by omega), if_neg (by omega), Int.neg_mul]
    omega
  · intro i h1 h2
    try dsimp only
    rw [if_pos (by omega), if_pos (by omega), if_neg (by omega), Int.neg_mul, Int.mul_comm (f i 0)]
    omega
theorem pow_pos' {a : Int} (h : 0 < a) : ∀ n : Nat, 0 < a ^ n
  | 0 => by simp
  | n + 1 => by rw [Int.pow_succ]; exact Int.mul_pos (pow_pos' h n) h
theorem dt_dom : ∀ (n : Nat) (f : Int → Int → Int), Dom n f → 0 ≤ dt n f ∧ dt n f ≤ pr (fun i => f i i) n
  | 0, f, _ => by simp [dt, pr]
  | n + 1, f, h => by
    have ha : 0 ≤ f 0 0 := h.diag (i := 0) (by omega)
    have hpr := pr_nonneg (g := fun i => f i i) (n + 1) fun i hi => h.diag hi
    by_cases h0 : f 0 0 = 0
    · have : dt (n + 1) f = 0 := by
        have e := dt_scale f (r := 0) (n := n + 1) (by omega) 0
        rw [Int.zero_mul] at e
        rw [← e]
        refine dt_congr (n + 1) fun i j hi hj => ?_
        unfold setr
        by_cases c : (i : Int) = ((0 : Nat) : Int)
        · rw [if_pos c]
          have := h.zrow (i := 0) (by omega) h0 hj
          rw [c, this]; simp
        · rw [if_neg c]
      rw [this]; exact ⟨Int.le_refl _, hpr⟩
    · have hs := dt_schur n f
      have ih := dt_dom n (schur f) h.schur
      have hle := pr_le (g := fun i => schur f i i) (h := fun i => f 0 0 * f ((i + 1 : Nat) : Int) ((i + 1 : Nat) : Int)) n fun i hi => ⟨h.schur.diag hi, by
        have e1 : f ((i + 1 : Nat) : Int) ((0 : Nat) : Int) ≤ 0 := (h (i + 1) (by omega)).1 0 (by omega) (by omega)
        have e2 : f ((0 : Nat) : Int) ((i + 1 : Nat) : Int) ≤ 0 := (h 0 (by omega)).1 (i + 1) (by omega) (by omega)
        have e3 := mul_nn e1 e2
        show f 0 0 * f ((i : Int) + 1) ((i : Int) + 1) - f ((i : Int) + 1) 0 * f 0 ((i : Int) + 1) ≤ _
        simp only [Int.natCast_add, Int.natCast_one, Int.natCast_zero] at e3 ⊢
        omega⟩
      rw [pr_scale (fun i => f ((i + 1 : Nat) : Int) ((i + 1 : Nat) : Int)) (f 0 0) n] at hle
      rw [pr_head]
      have hp := pow_pos' (show 0 < f 0 0 by omega) n
      have e0 : f ((0 : Nat) : Int) ((0 : Nat) : Int) = f 0 0 := rfl
      try dsimp only
      rw [e0]
      generalize pr (fun i => f ((i + 1 : Nat) : Int) ((i + 1 : Nat) : Int)) n = P at *
      generalize f 0 0 ^ n = q at *
      generalize f 0 0 = a at *
      generalize dt (n + 1) f = D at *
      constructor
      · have : 0 ≤ q * D := by rw [hs]; exact Int.mul_nonneg ha ih.1
        exact Int.nonneg_of_mul_nonneg_right this hp
      · have k1 : a * dt n (schur f) ≤ a * (q * P) := Int.mul_le_mul_of_nonneg_left (Int.le_trans ih.2 hle) ha
        rw [← hs, Int.mul_left_comm] at k1
        exact Int.le_of_mul_le_mul_left k1 hp
theorem dt_step {p : Int} {m : Nat} {G H : Int → Int → Int} {k : Int → Int} (h1 : ∀ i j : Nat, i < m → j < m → H i j % p = (G ((i : Int) + 1) ((j : Int) + 1) + k ((i : Int) + 1) * G 0 ((j : Int) + 1)) % p)
    (h2 : ∀ i : Nat, i < m → (G ((i : Int) + 1) 0 + k ((i : Int) + 1) * G 0 0) % p = 0) : dt (m + 1) G % p = G 0 0 * dt m H % p := by
  have e1 := dt_clear (n := m + 1) G k (by omega) (m + 1) (Nat.le_refl _)
  have e2 : dt (m + 1) (fun i j => if 1 ≤ i ∧ i < ((m + 1 : Nat) : Int) then G i j + k i * G 0 j else G i j) % p = dt (m + 1) (fun i j => if 1 ≤ i ∧ j = 0 then 0 else if 1 ≤ i ∧ i < ((m + 1 : Nat) : Int) then G i j + k i * G 0 j else G i j) % p := by
    refine dt_mod (m + 1) fun i j hi hj => ?_
    try dsimp only
    by_cases c : 1 ≤ (i : Int) ∧ (j : Int) = 0
    · rw [if_pos (by omega), if_pos c, c.2]
      have := h2 (i - 1) (by omega)
      rw [show (((i - 1 : Nat) : Int) + 1) = i by omega] at this
      rw [this, Int.zero_emod]
    · rw [if_neg c]
  have e3 := dt_col (n := m) (f := fun i j => if 1 ≤ i ∧ j = 0 then 0 else if 1 ≤ i ∧ i < ((m + 1 : Nat) : Int) then G i j + k i * G 0 j else G i j) (fun i hi _ => if_pos ⟨by omega, rfl⟩)
  rw [← e1, e2, e3]
  have e4 : dt m (dlr 0 (fun i j => if 1 ≤ i ∧ j = 0 then 0 else if 1 ≤ i ∧ i < ((m + 1 : Nat) : Int) then G i j + k i * G 0 j else G i j)) % p = dt m H % p := by
    refine dt_mod m fun i j hi hj => ?_
    unfold dlr
    rw [if_neg (show ¬ (i : Int) < 0 by omega)]
    try dsimp only
    rw [if_neg (by omega), if_pos (by omega), h1 i j hi hj]
  try dsimp only
  rw [if_neg (by omega), if_neg (by omega), Int.mul_emod, e4, ← Int.mul_emod]
def shf (c : Nat) (f : Int → Int → Int) : Int → Int → Int := fun i j => f (i + c) (j + c)
theorem shf_swp (f : Int → Int → Int) {c i : Nat} (h : c ≤ i) : shf c (swp f c i) = swp (shf c f) 0 ((i - c : Nat) : Int) := by
  funext a b
  unfold shf swp
  by_cases a1 : a = 0
  · rw [if_pos (by omega), if_pos a1]; dsimp only; congr 1; omega
  · by_cases a2 : a = ((i - c : Nat) : Int)
    · rw [if_neg (by omega), if_pos (by omega), if_neg a1, if_pos a2]; dsimp only; congr 1; omega
    · rw [if_neg (by omega), if_neg (by omega), if_neg a1, if_neg a2]
theorem swp_self (f : Int → Int → Int) (a : Int) : swp f a a = f := by
  funext i; unfold swp
  by_cases h : i = a
  · rw [if_pos h, h]
  · rw [if_neg h, if_neg h]
theorem dt_shf_swp {n c i : Nat} (f : Int → Int → Int) (h : c ≤ i) (hi : i < n) : dt (n - c) (shf c (swp f c i)) = if i = c then dt (n - c) (shf c f) else -dt (n - c) (shf c f) := by
  by_cases e : i = c
  · subst e; rw [swp_self, if_pos rfl]
  · rw [if_neg e, shf_swp f h]
    exact dt_swp (n := n - c) (shf c f) (r := 0) (s := i - c) (by omega) (by omega)
theorem clr0 {x inv lead p : Int} (h : lead * inv % p = 1) : (x + (p - x * inv % p) * lead) % p = 0 := by
  have h' : (x * inv % p * lead) % p = x % p := by rw [mul_mod_l, Int.mul_assoc, Int.mul_comm inv, ← mul_mod_r, h, Int.mul_one]
  have h2 : (x - x * inv % p * lead) % p = 0 := by rw [Int.sub_emod, h', Int.sub_self, Int.zero_emod]
  have e : x + (p - x * inv % p) * lead = (x - x * inv % p * lead) + p * lead := by rw [Int.sub_mul]; omega
  rw [e, Int.add_mul_emod_self_left]; exact h2
/-- the elimination of the program. -/
theorem elF_dt {p : Int} (hp : 1 < p) (hI : HasInv p) {n : Nat} {f : Int → Int → Int} (hr : Rng f p) : ∀ c, c ≤ n →
    ((elF p n f c).piv.length = c ∧ (elF p n f c).det * dt (n - c) (shf c (elF p n f c).f) % p = dt n f % p) ∨ ((elF p n f c).det = 0 ∧ dt n f % p = 0 ∧ (elF p n f c).piv.length ≤ c)
  | 0, _ => .inl ⟨rfl, by
    show 1 * dt n (shf 0 f) % p = _
    rw [Int.one_mul]
    congr 2
    funext i j; unfold shf; simp⟩
  | c + 1, hc => by
    have hrg := elF_rng (R := n) (by omega : 0 < p) hr c
    have hdt := elF_det hp n f c
    rcases elF_dt (n := n) hp hI hr c (by omega) with ⟨hl, hd⟩ | ⟨h0, hd, hl⟩
    · show ((elS p n (elF p n f c) c).piv.length = c + 1 ∧ (elS p n (elF p n f c) c).det * dt (n - (c + 1)) (shf (c + 1) (elS p n (elF p n f c) c).f) % p = dt n f % p) ∨ ((elS p n (elF p n f c) c).det = 0 ∧ dt n f % p = 0 ∧ (elS p n (elF p n f c) c).piv.length ≤ c + 1)
      generalize elF p n f c = s at *
      have hz : fstRow s.f c s.piv.length n = none → s.det * dt (n - c) (shf c s.f) = 0 := fun e => by
        have : dt (n - c) (shf c s.f) = 0 := by
          rw [show n - c = (n - c - 1) + 1 by omega]
          refine dt_zcol fun i hi => ?_
          unfold fstRow at e
          rw [List.find?_eq_none] at e
          have := e (i + c) (List.mem_range'_1.2 (by omega))
          simp at this
          unfold shf
          rw [Int.zero_add]; exact this
        rw [this, Int.mul_zero]
      unfold elS
      split
      · rename_i e
        refine .inr ⟨rfl, ?_, show s.piv.length ≤ c + 1 by omega⟩
        rw [hz e, Int.zero_emod] at hd
        exact hd.symm
      · rename_i i e
        have hs := fstRow_spec e
        rw [hl] at hs
        refine .inl ⟨by simp [hl], ?_⟩
        try dsimp only
        rw [hl]
        have hg : swp s.f c i c = s.f i := by unfold swp; rw [if_pos rfl]
        have h0 := hrg i c
        have hinv := hI _ (by omega : 0 < s.f i c) h0.2
        have hsw := dt_shf_swp (n := n) s.f hs.1 hs.2.1
        rw [hg]
        have hlead : shf c (swp s.f c i) 0 0 = s.f i c := by unfold shf; rw [Int.zero_add, hg]
        generalize swp s.f c i = g at *
        have hst := dt_step (p := p) (m := n - c - 1) (G := shf c g) (H := shf (c + 1) (clr (scl g c (invF (s.f i c) p) p) c c p)) (k := fun a => (p - g (a + c) c) * invF (s.f i c) p)
          (fun a b ha hb => by
            unfold shf clr
            rw [if_neg (by omega), Int.emod_emod_of_dvd _ (Int.dvd_refl p)]
            have e1 : ∀ j, scl g c (invF (s.f i c) p) p ((a : Int) + ((c + 1 : Nat) : Int)) j = g ((a : Int) + 1 + c) j := fun j => by
              unfold scl; rw [if_neg (by omega)]; congr 1; omega
            have e2 : ∀ j, scl g c (invF (s.f i c) p) p c j = g c j * invF (s.f i c) p % p := fun j => by unfold scl; rw [if_pos rfl]
            rw [e1, e1, e2, Int.zero_add, show (b : Int) + ((c + 1 : Nat) : Int) = (b : Int) + 1 + c by omega]
            rw [Int.add_emod, mul_mod_r, ← Int.add_emod, Int.mul_comm (g c _), Int.mul_assoc])
          (fun a ha => by
            unfold shf
            rw [Int.zero_add, hg, Int.mul_assoc, Int.mul_comm (invF _ _), Int.add_emod, ← mul_mod_r, hinv, Int.mul_one, ← Int.add_emod]
            rw [show ∀ x : Int, x + (p - x) = p from fun x => by omega, Int.emod_self])
        rw [hlead, show n - c - 1 + 1 = n - c by omega, show n - c - 1 = n - (c + 1) by omega] at hst
        rw [mul_mod_l, Int.mul_assoc, ← mul_mod_r, ← hst, mul_mod_r, hsw]
        by_cases c1 : i = c
        · rw [if_pos c1, if_pos c1]; exact hd
        · rw [if_neg c1, if_neg c1, mul_mod_l, Int.neg_mul_neg]; exact hd
    · refine .inr ⟨?_, hd, ?_⟩
      · show (elS p n (elF p n f c) c).det = 0
        unfold elS
        split
        · rfl
        · dsimp only; rw [h0]; simp
      · have := (elF_len p n f (c + 1)).2; omega
theorem elF_dt' {p : Int} (hp : 1 < p) (hI : HasInv p) {n : Nat} {f : Int → Int → Int} (hr : Rng f p) : (elF p n f n).det = dt n f % p := by
  have hb := elF_det hp n f n
  rcases elF_dt hp hI hr n (Nat.le_refl _) with ⟨_, h⟩ | ⟨h0, h, _⟩
  · rw [Nat.sub_self] at h
    rw [← h]
    show _ = _ * 1 % p
    rw [Int.mul_one, Int.emod_eq_of_lt hb.1 hb.2]
  · rw [h0, h]
/-- the elimination of the reference. -/
def lowr (f : Int → Int → Int) (c k p : Int) : Int → Int → Int := fun i j => if c < i ∧ c ≤ j then (f i j + (p - f i c * k % p) * f c j) % p else f i j
noncomputable def spS (p : Int) (R : Nat) (s : (Int → Int → Int) × Int) (c : Nat) : Option ((Int → Int → Int) × Int) :=
  match fstRow s.1 c c R with
  | none => none
  | some i => some (lowr (swp s.1 c i) c (invF (swp s.1 c i c c) p) p, (if i = c then s.2 else p - s.2) * swp s.1 c i c c % p)
noncomputable def spF (p : Int) (R : Nat) (f : Int → Int → Int) : Nat → Option ((Int → Int → Int) × Int)
  | 0 => some (f, 1)
  | c + 1 => (spF p R f c).bind fun s => spS p R s c
theorem Rng.lowr {f : Int → Int → Int} {p : Int} (h : Rng f p) (hp : 0 < p) (c k : Int) : Rng (Gh.lowr f c k p) p := fun i j => by
  unfold Gh.lowr; split
  · exact ⟨Int.emod_nonneg _ (by omega), Int.emod_lt_of_pos _ hp⟩
  · exact h i j
theorem spF_rng {p : Int} (hp : 1 < p) {n : Nat} {f : Int → Int → Int} (hr : Rng f p) : ∀ c s, spF p n f c = some s → Rng s.1 p ∧ 0 ≤ s.2 ∧ s.2 < p
  | 0, s, h => by cases h; exact ⟨hr, by dsimp only; omega, by dsimp only; omega⟩
  | c + 1, s, h => by
    unfold spF at h
    obtain ⟨t, h1, h2⟩ := Option.bind_eq_some_iff.1 h
    have ih := spF_rng hp hr c t h1
    unfold spS at h2
    split at h2
    · cases h2
    · cases h2
      exact ⟨(ih.1.swp _ _).lowr (by omega) _ _, Int.emod_nonneg _ (by omega), Int.emod_lt_of_pos _ (by omega)⟩
theorem spF_dt {p : Int} (hp : 1 < p) (hI : HasInv p) {n : Nat} {f : Int → Int → Int} (hr : Rng f p) : ∀ c, c ≤ n →
    (∀ s, spF p n f c = some s → s.2 * dt (n - c) (shf c s.1) % p = dt n f % p) ∧ (spF p n f c = none → dt n f % p = 0)
  | 0, _ => ⟨fun s h => by
    cases h
    show 1 * dt n (shf 0 f) % p = _
    rw [Int.one_mul]
    congr 2
    funext i j; unfold shf; simp, fun h => by cases h⟩
  | c + 1, hc => by
    have ih := spF_dt (n := n) hp hI hr c (by omega)
    have hz : ∀ t, spF p n f c = some t → fstRow t.1 c c n = none → dt n f % p = 0 := fun t ht e => by
      have hd := ih.1 t ht
      have : dt (n - c) (shf c t.1) = 0 := by
        rw [show n - c = (n - c - 1) + 1 by omega]
        refine dt_zcol fun i hi => ?_
        unfold fstRow at e
        rw [List.find?_eq_none] at e
        have := e (i + c) (List.mem_range'_1.2 (by omega))
        simp at this
        unfold shf
        rw [Int.zero_add]; exact this
      rw [this, Int.mul_zero, Int.zero_emod] at hd
      exact hd.symm
    constructor
    · intro s h
      unfold spF at h
      obtain ⟨t, h1, h2⟩ := Option.bind_eq_some_iff.1 h
      have hrg := (spF_rng hp hr c t h1).1
      have hd := ih.1 t h1
      unfold spS at h2
      split at h2
      · cases h2
      · rename_i i e
        cases h2
        have hs := fstRow_spec e
        try dsimp only
        have hg : swp t.1 c i c = t.1 i := by unfold swp; rw [if_pos rfl]
        have h0 := hrg i c
        have hinv := hI _ (by omega : 0 < t.1 i c) h0.2
        have hsw := dt_shf_swp (n := n) t.1 hs.1 hs.2.1
        rw [hg]
        have hlead : shf c (swp t.1 c i) 0 0 = t.1 i c := by unfold shf; rw [Int.zero_add, hg]
        generalize swp t.1 c i = g at *
        have hst := dt_step (p := p) (m := n - c - 1) (G := shf c g) (H := shf (c + 1) (lowr g c (invF (t.1 i c) p) p)) (k := fun a => p - g (a + c) c * invF (t.1 i c) p % p)
          (fun a b ha hb => by
            unfold shf lowr
            rw [if_pos (by omega), Int.emod_emod_of_dvd _ (Int.dvd_refl p), Int.zero_add, show (a : Int) + ((c + 1 : Nat) : Int) = (a : Int) + 1 + c by omega, show (b : Int) + ((c + 1 : Nat) : Int) = (b : Int) + 1 + c by omega])
          (fun a ha => by
            unfold shf
            rw [Int.zero_add, hg]
            exact clr0 hinv)
        rw [hlead, show n - c - 1 + 1 = n - c by omega, show n - c - 1 = n - (c + 1) by omega] at hst
        rw [mul_mod_l, Int.mul_assoc, ← mul_mod_r, ← hst, mul_mod_r, hsw]
        by_cases c1 : i = c
        · rw [if_pos c1, if_pos c1]; exact hd
        · rw [if_neg c1, if_neg c1, Int.mul_neg, Int.sub_mul, Int.neg_sub, Int.sub_emod, Int.mul_emod_right, Int.sub_zero, Int.emod_emod_of_dvd _ (Int.dvd_refl p)]; exact hd
    · intro h
      unfold spF at h
      cases ht : spF p n f c with
      | none => exact ih.2 ht
      | some t =>
        rw [ht] at h
        simp only [Option.bind_some] at h
        unfold spS at h
        split at h
        · rename_i e; exact hz t ht e
        · cases h
noncomputable def spDet (p : Int) (n : Nat) (f : Int → Int → Int) : Int := match spF p n f n with
  | none => 0
  | some s => s.2 % p
theorem spDet_dt {p : Int} (hp : 1 < p) (hI : HasInv p) {n : Nat} {f : Int → Int → Int} (hr : Rng f p) : spDet p n f = dt n f % p := by
  have h := spF_dt hp hI hr n (Nat.le_refl _)
  unfold spDet
  split
  · rename_i e; exact (h.2 e).symm
  · rename_i s e
    have := h.1 s e
    rw [Nat.sub_self] at this
    rw [← this]
    show _ = _ * 1 % p
    rw [Int.mul_one]
def ch : Nat → Nat → Nat
  | _, 0 => 1
  | 0, _ + 1 => 0
  | n + 1, k + 1 => ch n k + ch n (k + 1)
theorem ch_zero : ∀ {n k : Nat}, n < k → ch n k = 0
  | _, 0, h => by omega
  | 0, k + 1, _ => rfl
  | n + 1, k + 1, h => by show ch n k + ch n (k + 1) = 0; rw [ch_zero (by omega), ch_zero (by omega)]
theorem ch_self : ∀ n, ch n n = 1
  | 0 => rfl
  | n + 1 => by show ch n n + ch n (n + 1) = 1; rw [ch_self n, ch_zero (by omega)]
theorem ch_mul : ∀ n k, ch (n + 1) (k + 1) * (k + 1) = (n + 1) * ch n k
  | 0, 0 => rfl
  | 0, k + 1 => by
    show (ch 0 (k + 1) + ch 0 (k + 2)) * (k + 1 + 1) = (0 + 1) * ch 0 (k + 1)
    simp [ch]
  | n + 1, 0 => by
    have h := ch_mul n 0
    show (ch (n + 1) 0 + ch (n + 1) 1) * 1 = (n + 1 + 1) * ch (n + 1) 0
    have e0 : ch (n + 1) 0 = 1 := by cases n <;> rfl
    have e1 : ch n 0 = 1 := by cases n <;> rfl
    rw [e0]; rw [e1] at h
    simp at h ⊢; omega
  | n + 1, k + 1 => by
    have h1 := ch_mul n k
    have h2 := ch_mul n (k + 1)
    have e : ch (n + 1) (k + 1) = ch n k + ch n (k + 1) := rfl
    show (ch (n + 1) (k + 1) + ch (n + 1) (k + 2)) * (k + 1 + 1) = (n + 1 + 1) * ch (n + 1) (k + 1)
    rw [Nat.add_mul, h2, Nat.mul_add (ch (n + 1) (k + 1)), h1, Nat.mul_one, Nat.add_mul (n + 1) 1, Nat.one_mul]
    rw [show (n + 1) * ch (n + 1) (k + 1) = (n + 1) * ch n k + (n + 1) * ch n (k + 1) by rw [e, Nat.mul_add]]
    omega
theorem prime_dvd {p k : Nat} (hp : ∀ d, d ∣ p → d = 1 ∨ d = p) (h0 : 0 < k) (h1 : k < p) : Nat.Coprime p k := by
  rcases hp (Nat.gcd p k) (Nat.gcd_dvd_left p k) with h | h
  · exact h
  · have := Nat.le_of_dvd h0 (h ▸ Nat.gcd_dvd_right p k); omega
theorem ch_dvd {p k : Nat} (hp : ∀ d, d ∣ p → d = 1 ∨ d = p) (h0 : 0 < k) (h1 : k < p) : p ∣ ch p k := by
  obtain ⟨n, rfl⟩ : ∃ n, p = n + 1 := ⟨p - 1, by omega⟩
  obtain ⟨j, rfl⟩ : ∃ j, k = j + 1 := ⟨k - 1, by omega⟩
  have h := ch_mul n j
  exact (prime_dvd hp h0 h1).dvd_of_dvd_mul_right ⟨ch n j, h⟩
def smN (g : Nat → Nat) : Nat → Nat
  | 0 => 0
  | n + 1 => smN g n + g n
theorem smN_head (g : Nat → Nat) : ∀ n, smN g (n + 1) = g 0 + smN (fun i => g (i + 1)) n
  | 0 => by simp [smN]
  | n + 1 => by
    show smN g (n + 1) + g (n + 1) = g 0 + (smN (fun i => g (i + 1)) n + g (n + 1))
    rw [smN_head g n]; omega
theorem smN_add (g h : Nat → Nat) : ∀ n, smN (fun i => g i + h i) n = smN g n + smN h n
  | 0 => rfl
  | n + 1 => by simp only [smN, smN_add g h n]; omega
theorem smN_mul (g : Nat → Nat) (a : Nat) : ∀ n, smN (fun i => a * g i) n = a * smN g n
  | 0 => rfl
  | n + 1 => by simp only [smN, smN_mul g a n, Nat.mul_add]
theorem smN_congr {g h : Nat → Nat} : ∀ n, (∀ i, i < n → g i = h i) → smN g n = smN h n
  | 0, _ => rfl
  | n + 1, hh => by simp only [smN]; rw [smN_congr n fun i hi => hh i (by omega), hh n (by omega)]
theorem binom (x : Nat) : ∀ n, (x + 1) ^ n = smN (fun k => ch n k * x ^ k) (n + 1)
  | 0 => by simp [smN, ch]
  | n + 1 => by
    rw [Nat.pow_succ, binom x n, Nat.mul_add, Nat.mul_one]
    rw [smN_head (fun k => ch (n + 1) k * x ^ k) (n + 1)]
    have e1 : smN (fun i => ch (n + 1) (i + 1) * x ^ (i + 1)) (n + 1) = smN (fun i => x * (ch n i * x ^ i) + ch n (i + 1) * x ^ (i + 1)) (n + 1) := smN_congr _ fun i _ => by
      show (ch n i + ch n (i + 1)) * x ^ (i + 1) = _
      rw [Nat.add_mul, Nat.pow_succ, Nat.mul_left_comm x, Nat.mul_comm x]
    rw [e1, smN_add, smN_mul (fun i => ch n i * x ^ i) x]
    have e2 : smN (fun i => ch n (i + 1) * x ^ (i + 1)) (n + 1) = smN (fun i => ch n (i + 1) * x ^ (i + 1)) n := by
      show _ + ch n (n + 1) * x ^ (n + 1) = _
      rw [ch_zero (by omega)]; simp
    have e3 := smN_head (fun k => ch n k * x ^ k) n
    have e4 : ch n 0 = 1 := by cases n <;> rfl
    have e5 : ch (n + 1) 0 = 1 := rfl
    try dsimp only at e3
    rw [e2, e5]
    rw [e4] at e3
    rw [Nat.mul_comm _ x]
    omega
theorem smN_dvd {g : Nat → Nat} {p : Nat} : ∀ n, (∀ i, i < n → p ∣ g i) → p ∣ smN g n
  | 0, _ => Nat.dvd_zero p
  | n + 1, h => Nat.dvd_add (smN_dvd n fun i hi => h i (by omega)) (h n (by omega))
theorem fermat {p : Nat} (h1 : 1 < p) (hp : ∀ d, d ∣ p → d = 1 ∨ d = p) : ∀ a : Nat, a ^ p % p = a % p
  | 0 => by rw [Nat.zero_pow (by omega)]
  | a + 1 => by
    rw [binom a p]
    show (smN (fun k => ch p k * a ^ k) p + ch p p * a ^ p) % p = _
    rw [ch_self, Nat.one_mul]
    obtain ⟨n, rfl⟩ : ∃ n, p = n + 1 := ⟨p - 1, by omega⟩
    rw [smN_head]
    have e4 : ch (n + 1) 0 = 1 := rfl
    have hd : (n + 1) ∣ smN (fun i => ch (n + 1) (i + 1) * a ^ (i + 1)) n := smN_dvd n fun i hi => Nat.dvd_mul_right_of_dvd (ch_dvd hp (by omega) (by omega)) _
    try dsimp only
    rw [e4, Nat.pow_zero, Nat.one_mul, Nat.add_mod, Nat.add_mod 1, Nat.mod_eq_zero_of_dvd hd, Nat.add_zero, Nat.mod_mod, ← Nat.add_mod, Nat.add_mod, fermat h1 hp a, ← Nat.add_mod, Nat.add_comm]
theorem pw_pow {a p : Nat} : ∀ n, pw (a : Int) p n % (p : Int) = ((a ^ n % p : Nat) : Int)
  | 0 => by simp [pw]
  | n + 1 => by
    show pw (a : Int) p n * a % p % p = _
    rw [Int.emod_emod_of_dvd _ (Int.dvd_refl _), ← mul_mod_l, pw_pow n, Nat.pow_succ]
    push_cast
    rw [mul_mod_l]
theorem hasInv_prime {p : Nat} (h1 : 2 < p) (hp : ∀ d, d ∣ p → d = 1 ∨ d = p) : HasInv p := by
  intro a h0 ha
  obtain ⟨b, rfl⟩ : ∃ b : Nat, a = b := ⟨a.toNat, by omega⟩
  unfold invF
  rw [show ((p : Int) - 2).toNat = p - 2 by omega, ← mul_mod_r, pw_pow, Int.natCast_emod, mul_mod_r]
  have hf := fermat (by omega) hp b
  have e : b ^ p = b * (b * b ^ (p - 2)) := by
    have : p = (p - 2) + 1 + 1 := by omega
    rw [this, Nat.pow_succ, Nat.pow_succ]
    rw [show (p - 2 + 1 + 1) - 2 = p - 2 by omega, Nat.mul_comm (b ^ (p - 2) * b) b, Nat.mul_comm (b ^ (p - 2)) b]
  rw [e] at hf
  have hge : 1 ≤ b * b ^ (p - 2) := Nat.mul_pos (by omega) (Nat.pow_pos (by omega))
  have hdvd : p ∣ b * (b * b ^ (p - 2) - 1) := by
    rw [Nat.mul_sub, Nat.mul_one]
    exact Nat.dvd_of_mod_eq_zero (Nat.sub_mod_eq_zero_of_mod_eq hf)
  have h2 := (prime_dvd hp (by omega : 0 < b) (by omega)).dvd_of_dvd_mul_left hdvd
  obtain ⟨c, hc⟩ := h2
  have : b * b ^ (p - 2) = p * c + 1 := by omega
  have h3 : (b * b ^ (p - 2)) % p = 1 := by rw [this, Nat.mul_add_mod, Nat.mod_eq_of_lt (by omega)]
  have := congrArg (Nat.cast (R := Int)) h3
  push_cast at this
  exact this
/-- no divisor from k on, for as many as the fuel. -/
def noDiv (p : Nat) : Nat → Nat → Bool
  | 0, _ => true
  | f + 1, k => if p % k = 0 then false else noDiv p f (k + 1)
theorem noDiv_ok {p : Nat} : ∀ {f k : Nat}, noDiv p f k = true → ∀ d, k ≤ d → d < k + f → p % d ≠ 0
  | 0, k, _, d, h1, h2 => by omega
  | f + 1, k, h, d, h1, h2 => by
    unfold noDiv at h
    split at h
    · cases h
    · rename_i h0
      by_cases e : d = k
      · rw [e]; exact h0
      · exact noDiv_ok h d (by omega) (by omega)
theorem prime_of {p f : Nat} (h1 : 1 < p) (h : noDiv p f 2 = true) (hf : p < (f + 2) * (f + 2)) : ∀ d, d ∣ p → d = 1 ∨ d = p := by
  intro d hd
  obtain ⟨e, he⟩ := hd
  have hd0 : 0 < d := Nat.pos_of_ne_zero fun x => by rw [x] at he; omega
  have he0 : 0 < e := Nat.pos_of_ne_zero fun x => by rw [x] at he; omega
  by_cases c1 : d < f + 2
  · by_cases c2 : d = 1
    · exact .inl c2
    · exact absurd (by rw [he]; exact Nat.mul_mod_right d e) (noDiv_ok h d (by omega) (by omega))
  · have c3 : e < f + 2 := by
      apply Classical.byContradiction
      intro c
      have : (f + 2) * (f + 2) ≤ d * e := Nat.mul_le_mul (by omega) (by omega)
      omega
    by_cases c4 : e = 1
    · exact .inr (by rw [he, c4, Nat.mul_one])
    · exact absurd (by rw [he]; exact Nat.mul_mod_left d e) (noDiv_ok h e (by omega) (by omega))
theorem hasInv_7 : HasInv 1000000007 := hasInv_prime (p := 1000000007) (by omega) (prime_of (f := 31630) (by omega) (by decide +kernel) (by decide))
theorem hasInv_9 : HasInv 1000000009 := hasInv_prime (p := 1000000009) (by omega) (prime_of (f := 31630) (by omega) (by decide +kernel) (by decide))
theorem hasInv_3 : HasInv 998244353 := hasInv_prime (p := 998244353) (by omega) (prime_of (f := 31630) (by omega) (by decide +kernel) (by decide))
theorem Own.ne {G : GH} {A : Option Addr} {c sz n x : Nat} {cs : List Value} (h : Own G A c cs sz n) (hx : G x = none) : ∀ a, A = some a → a.block ≠ x := fun a ha e => by
  rcases h with ⟨h1, _⟩ | ⟨y, r, h1, h2, _⟩
  · rw [h1] at ha; cases ha
  · rw [h1] at ha; cases ha
    dsimp only at e
    rw [e, hx] at h2; cases h2
theorem Own.put {G : GH} {A : Option Addr} {c sz n b : Nat} {cs : List Value} (h : Own G A c cs sz n) (hne : ∀ a, A = some a → a.block ≠ b) (e : Ent) : Own (Gh.put G b e) A c cs sz n := by
  rcases h with h | ⟨b', r, h1, h2, h3⟩
  · exact .inl h
  · exact .inr ⟨b', r, h1, by rw [put_ne _ _ (hne _ h1)]; exact h2, h3⟩
theorem parts_len (n : Nat) (es : List T3) : (parts n es).length = n := by simp [parts]
theorem lap_row {N : Gra} (hn : GraOk N) (i : Int) : ∀ k : Nat, k ≤ N.edges.length → sumN (fun j => lapK N.edges k i j) N.n.toNat = 0
  | 0, _ => by simp only [lapK]; exact sumN_zero _
  | k + 1, hk => by
    have h1 := hn.1
    obtain ⟨o1, o2, o3, o4⟩ := hn.2.1 k (by omega)
    have e : (fun j => lapK N.edges (k + 1) i j) = fun j => lapK N.edges k i j + ((if j = (N.edges.getD k z3).1 then (if i = (N.edges.getD k z3).1 then (N.edges.getD k z3).2.2 else 0) - (if i = (N.edges.getD k z3).2.1 then (N.edges.getD k z3).2.2 else 0) else 0) + (if j = (N.edges.getD k z3).2.1 then (if i = (N.edges.getD k z3).2.1 then (N.edges.getD k z3).2.2 else 0) - (if i = (N.edges.getD k z3).1 then (N.edges.getD k z3).2.2 else 0) else 0)) := funext fun j => by
      rw [lapK_step hn.okE (by omega)]
      (repeat' split) <;> omega
    rw [e, sumN_add, lap_row hn i k (by omega), sumN_add, sumN_one _ _ o1, sumN_one _ _ (show 0 ≤ (N.edges.getD k z3).2.1 by omega), if_pos (show (N.edges.getD k z3).1 < (N.n.toNat : Int) by omega), if_pos (show (N.edges.getD k z3).2.1 < (N.n.toNat : Int) by omega)]
    (repeat' split) <;> omega
def lsum (g : Int → Int) (ks : List Int) : Int := (ks.map g).sum
theorem lsum_app (g : Int → Int) (a b : List Int) : lsum g (a ++ b) = lsum g a + lsum g b := by simp [lsum]
theorem lsum_iota (g : Int → Int) : ∀ n, lsum g (iota n) = sumN g n
  | 0 => rfl
  | n + 1 => by rw [iota_succ, lsum_app, lsum_iota g n]; simp [lsum, sumN]
theorem lsum_filter (g : Int → Int) (P : Int → Bool) : ∀ l : List Int, (∀ v ∈ l, P v = false → g v ≤ 0) → lsum g l ≤ lsum g (l.filter P)
  | [], _ => Int.le_refl _
  | a :: l, h => by
    have ih := lsum_filter g P l fun v hv => h v (List.mem_cons_of_mem _ hv)
    have ha := h a List.mem_cons_self
    have e : lsum g (a :: l) = g a + lsum g l := by simp [lsum]
    by_cases hp : P a = true
    · rw [List.filter_cons_of_pos hp, e]
      have e2 : lsum g (a :: l.filter P) = g a + lsum g (l.filter P) := by simp [lsum]
      omega
    · rw [List.filter_cons_of_neg hp, e]
      have := ha (by simpa using hp); omega
theorem lsum_neg (g : Int → Int) : ∀ l : List Int, lsum (fun v => -g v) l = -lsum g l
  | [] => rfl
  | a :: l => by
    have e : lsum g (a :: l) = g a + lsum g l := by simp [lsum]
    have e2 : lsum (fun v => -g v) (a :: l) = -g a + lsum (fun v => -g v) l := by simp [lsum]
    rw [e, e2, lsum_neg g l]; omega
theorem sm_lsum (g : Int → Int) : ∀ ks : List Int, sm (fun j => g (ks.getD j 0)) ks.length = lsum g ks
  | [] => rfl
  | a :: ks => by
    have e : lsum g (a :: ks) = g a + lsum g ks := by simp [lsum]
    rw [List.length_cons, sm_head, e, ← sm_lsum g ks]; rfl
/-- the nodes that are kept, and the rows and columns of these. -/
def keep (n : Nat) (om : List Int) : List Int := (iota n).filter fun v => !om.contains v
def sub (ks : List Int) (f : Int → Int → Int) : Int → Int → Int := fun i j => f (ks.getD i.toNat 0) (ks.getD j.toNat 0)
theorem iota_nodup (n : Nat) : (iota n).Nodup := by
  unfold iota
  exact List.Pairwise.map _ (fun a b h e => h (by omega)) List.nodup_range
theorem nodup_inj {l : List Int} (h : l.Nodup) {i j : Nat} (hi : i < l.length) (hj : j < l.length) (e : l[i] = l[j]) : i = j := by
  have hp := List.pairwise_iff_getElem.1 h
  rcases Nat.lt_trichotomy i j with c | c | c
  · exact absurd e (hp i j hi hj c)
  · exact c
  · exact absurd e.symm (hp j i hj hi c)
theorem keep_nodup (n : Nat) (om : List Int) : (keep n om).Nodup := (iota_nodup n).filter _
theorem mem_iota {n : Nat} {x : Int} : x ∈ iota n ↔ 0 ≤ x ∧ x < n := by
  simp only [iota, List.mem_map, List.mem_range]
  constructor
  · rintro ⟨a, h, rfl⟩; omega
  · intro h; exact ⟨x.toNat, by omega, by omega⟩
theorem lap_off {N : Gra} (hn : GraOk N) {i j : Int} (hij : i ≠ j) : ∀ k : Nat, k ≤ N.edges.length → lapK N.edges k i j ≤ 0
  | 0, _ => Int.le_refl _
  | k + 1, hk => by
    have ih := lap_off hn hij k (by omega)
    obtain ⟨o1, o2, o3, o4⟩ := hn.2.1 k (by omega)
    rw [lapK_step hn.okE (by omega)]
    (repeat' split) <;> omega
theorem lap_diag {N : Gra} (hn : GraOk N) : ∀ k : Nat, k ≤ N.edges.length → (∀ v, 0 ≤ lapK N.edges k v v) ∧ sumN (fun v => lapK N.edges k v v) N.n.toNat ≤ 18 * k
  | 0, _ => ⟨fun v => Int.le_refl _, by simp only [lapK]; rw [sumN_zero]; omega⟩
  | k + 1, hk => by
    have ih := lap_diag hn k (by omega)
    have h1 := hn.1
    obtain ⟨o1, o2, o3, o4⟩ := hn.2.1 k (by omega)
    have e : (fun v => lapK N.edges (k + 1) v v) = fun v => lapK N.edges k v v + ((if v = (N.edges.getD k z3).1 then (N.edges.getD k z3).2.2 else 0) + (if v = (N.edges.getD k z3).2.1 then (N.edges.getD k z3).2.2 else 0)) := funext fun v => by
      rw [lapK_step hn.okE (by omega)]
      (repeat' split) <;> omega
    refine ⟨fun v => ?_, ?_⟩
    · have := congrFun e v
      try dsimp only at this
      rw [this]
      have := ih.1 v
      (repeat' split) <;> omega
    · rw [e, sumN_add, sumN_add, sumN_one _ _ o1, sumN_one _ _ (show 0 ≤ (N.edges.getD k z3).2.1 by omega), if_pos (show (N.edges.getD k z3).1 < (N.n.toNat : Int) by omega), if_pos (show (N.edges.getD k z3).2.1 < (N.n.toNat : Int) by omega)]
      have := ih.2
      omega
theorem minor_dom {N : Gra} (hn : GraOk N) (om : List Int) : Dom (keep N.n.toNat om).length (sub (keep N.n.toNat om) (lapK N.edges N.edges.length)) := fun i hi => by
  have hnd := keep_nodup N.n.toNat om
  refine ⟨fun j hj hne => ?_, ?_⟩
  · unfold sub
    rw [Int.toNat_natCast, Int.toNat_natCast]
    refine lap_off hn (fun e => hne ?_) _ (Nat.le_refl _)
    simp only [List.getD, List.getElem?_eq_getElem hi, List.getElem?_eq_getElem hj, Option.getD_some] at e
    exact nodup_inj hnd hj hi e.symm
  · unfold sub
    simp only [Int.toNat_natCast]
    have hu : (keep N.n.toNat om).getD i 0 ∈ keep N.n.toNat om := by simp [List.getD, hi]
    generalize (keep N.n.toNat om).getD i 0 = u at *
    have h1 := sm_lsum (lapK N.edges N.edges.length u) (keep N.n.toNat om)
    rw [h1]
    have h2 := lsum_filter (lapK N.edges N.edges.length u) (fun v => !om.contains v) (iota N.n.toNat) fun v hv hp => lap_off hn (fun e => by
      subst e
      have := (List.mem_filter.1 hu).2
      rw [this] at hp; cases hp) _ (Nat.le_refl _)
    rw [lsum_iota, lap_row hn u _ (Nat.le_refl _)] at h2
    exact h2
/-- products of few numbers with a small sum. -/
theorem one_bound : ∀ d : Nat, d < 433 → d * 39 ^ d ≤ 15 * 40 ^ d := by decide +kernel
theorem all_bound : ∀ s : Nat, s < 433 → 15 ^ 11 * 40 ^ s < 998244353000000000 * 39 ^ s := by decide +kernel
theorem pr_bound : ∀ (ds : List Nat), ds.sum < 433 → ds.prod * 39 ^ ds.sum ≤ 15 ^ ds.length * 40 ^ ds.sum
  | [], _ => by simp
  | d :: ds, h => by
    rw [List.sum_cons] at h
    have ih := pr_bound ds (by omega)
    have h1 := one_bound d (by omega)
    have e1 : 39 ^ (d + ds.sum) = 39 ^ d * 39 ^ ds.sum := Nat.pow_add _ _ _
    have e2 : 40 ^ (d + ds.sum) = 40 ^ d * 40 ^ ds.sum := Nat.pow_add _ _ _
    have e3 : 15 ^ (ds.length + 1) = 15 ^ ds.length * 15 := Nat.pow_succ _ _
    rw [List.sum_cons, List.prod_cons, List.length_cons, e1, e2, e3]
    have := Nat.mul_le_mul h1 ih
    calc d * ds.prod * (39 ^ d * 39 ^ ds.sum) = d * 39 ^ d * (ds.prod * 39 ^ ds.sum) := by ac_rfl
      _ ≤ 15 * 40 ^ d * (15 ^ ds.length * 40 ^ ds.sum) := this
      _ = 15 ^ ds.length * 15 * (40 ^ d * 40 ^ ds.sum) := by ac_rfl
theorem pr_small {ds : List Nat} (h : ds.sum < 433) (hl : ds.length ≤ 11) : ds.prod < 998244353000000000 := by
  have h1 := pr_bound ds h
  have h2 := all_bound ds.sum h
  have h3 : 15 ^ ds.length * 40 ^ ds.sum ≤ 15 ^ 11 * 40 ^ ds.sum := Nat.mul_le_mul_right _ (Nat.pow_le_pow_right (by omega) hl)
  have h4 : ds.prod * 39 ^ ds.sum < 998244353000000000 * 39 ^ ds.sum := by omega
  exact Nat.lt_of_mul_lt_mul_right h4
theorem pr_list {g : Int → Int} : ∀ ks : List Int, (∀ v ∈ ks, 0 ≤ g v) → pr (fun i => g (ks.getD i 0)) ks.length = (((ks.map fun v => (g v).toNat).prod : Nat) : Int) ∧ lsum g ks = (((ks.map fun v => (g v).toNat).sum : Nat) : Int)
  | [], _ => by simp [pr, lsum]
  | a :: ks, h => by
    have ih := pr_list (g := g) ks fun v hv => h v (List.mem_cons_of_mem _ hv)
    have ha := h a List.mem_cons_self
    have e : lsum g (a :: ks) = g a + lsum g ks := by simp [lsum]
    rw [List.length_cons, pr_head, List.map_cons, List.prod_cons, List.sum_cons, e, ih.2]
    refine ⟨?_, by omega⟩
    have e2 : (fun i => g ((a :: ks).getD (i + 1) 0)) = fun i => g (ks.getD i 0) := rfl
    rw [e2, ih.1, Int.natCast_mul, Int.toNat_of_nonneg ha]; rfl

end Go.Proofs.Ytmlkgpoakkgjbaa.Gh
