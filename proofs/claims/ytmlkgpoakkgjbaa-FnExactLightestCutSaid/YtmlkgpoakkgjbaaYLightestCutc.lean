/- What the functions that the law LightestCut reaches return, and the law; it stands under no condition. -/
import Derived.Test.YtmlkgpoakkgjbaaYLightestCutb
namespace Go.Proofs.Ytmlkgpoakkgjbaa.Gh
open Go Go.RowKit Go.Proofs
set_option linter.unusedVariables false
set_option linter.unusedSimpArgs false
set_option maxHeartbeats 4000000

theorem impl_members_ok {G : GH} {s : Nat} (hs : s < 2 ^ 12) {K : Value → GH → Prop}
    (hk : ∀ G' A c, New G G' A c ((bitsL s 12).map I64) 1 (bitsL s 12).length → K (.slice A (bitsL s 12).length c) G') : GC Try.prog 142 [.int .i64 s] G K := by
  refine c_impl_members_i (by simp) ?_
  simp (maxSteps := 300000) (disch := omega) only [gs, gs2, gs3, ↓reduceIte, Nat.reduceEqDiff, Nat.mul_one, Nat.add_zero, Nat.zero_add, Nat.zero_mul, Int.toNat_natCast, Int.reduceToNat, Nat.reduceMul, Nat.reduceAdd, decide_true, decide_false, Bool.not_true, Bool.not_false, true_and, and_true, List.map_cons, List.map_nil, List.nil_append, List.cons_append, List.append_nil, Option.map_some, Option.bind_some, List.getElem?_cons_zero, List.getElem?_cons_succ, Bool.false_eq_true, not_true_eq_false, not_false_eq_true, List.contains_cons, List.contains_nil, Nat.reduceBEq, Bool.true_or, Bool.false_or, Bool.or_true, List.set_cons_zero, List.set_cons_succ, List.length_cons, List.length_nil, isLd, Bool.true_and, Bool.false_and, Bool.and_true, Bool.and_false]
  refine gLoop_intro (fun m T G' => ∃ (k : Nat) (A : Option Addr) (c : Nat), T 0 = .int .i64 s ∧ T 3 = .slice A (bitsL s k).length c ∧ T 4 = .int .i64 k ∧ m + k = 12 ∧ k ≤ 12 ∧ New G G' A c ((bitsL s k).map I64) 1 (bitsL s k).length)
    12 ⟨0, none, 0, by simp (maxSteps := 300000) (disch := omega) only [gs, gs2, gs3, ↓reduceIte, Nat.reduceEqDiff, Nat.mul_one, Nat.add_zero, Nat.zero_add, Nat.zero_mul, Int.toNat_natCast, Int.reduceToNat, Nat.reduceMul, Nat.reduceAdd, decide_true, decide_false, Bool.not_true, Bool.not_false, true_and, and_true, List.map_cons, List.map_nil, List.nil_append, List.cons_append, List.append_nil, Option.map_some, Option.bind_some, List.getElem?_cons_zero, List.getElem?_cons_succ, Bool.false_eq_true, not_true_eq_false, not_false_eq_true, List.contains_cons, List.contains_nil, Nat.reduceBEq, Bool.true_or, Bool.false_or, Bool.or_true, List.set_cons_zero, List.set_cons_succ, List.length_cons, List.length_nil, isLd, Bool.true_and, Bool.false_and, Bool.and_true, Bool.and_false], by simp (maxSteps := 300000) (disch := omega) only [gs, gs2, gs3, ↓reduceIte, Nat.reduceEqDiff, Nat.mul_one, Nat.add_zero, Nat.zero_add, Nat.zero_mul, Int.toNat_natCast, Int.reduceToNat, Nat.reduceMul, Nat.reduceAdd, decide_true, decide_false, Bool.not_true, Bool.not_false, true_and, and_true, List.map_cons, List.map_nil, List.nil_append, List.cons_append, List.append_nil, Option.map_some, Option.bind_some, List.getElem?_cons_zero, List.getElem?_cons_succ, Bool.false_eq_true, not_true_eq_false, not_false_eq_true, List.contains_cons, List.contains_nil, Nat.reduceBEq, Bool.true_or, Bool.false_or, Bool.or_true, List.set_cons_zero, List.set_cons_succ, List.length_cons, List.length_nil, isLd, Bool.true_and, Bool.false_and, Bool.and_true, Bool.and_false] <;> rfl, by simp (maxSteps := 300000) (disch := omega) only [gs, gs2, gs3, ↓reduceIte, Nat.reduceEqDiff, Nat.mul_one, Nat.add_zero, Nat.zero_add, Nat.zero_mul, Int.toNat_natCast, Int.reduceToNat, Nat.reduceMul, Nat.reduceAdd, decide_true, decide_false, Bool.not_true, Bool.not_false, true_and, and_true, List.map_cons, List.map_nil, List.nil_append, List.cons_append, List.append_nil, Option.map_some, Option.bind_some, List.getElem?_cons_zero, List.getElem?_cons_succ, Bool.false_eq_true, not_true_eq_false, not_false_eq_true, List.contains_cons, List.contains_nil, Nat.reduceBEq, Bool.true_or, Bool.false_or, Bool.or_true, List.set_cons_zero, List.set_cons_succ, List.length_cons, List.length_nil, isLd, Bool.true_and, Bool.false_and, Bool.and_true, Bool.and_false] <;> rfl, by omega, by omega, New.nil _ _⟩ ?_
  rintro m T G' ⟨k, A, c, e0, e3, e4, hm, hkm, hN⟩
  have h1 := shr_nat (a := s) (j := k) (by omega)
  have h2 := bit_and1 (s := s) (k := k) (by omega)
  have hlen := bitsL_len s k
  simp (maxSteps := 300000) (disch := omega) only [gs, gs2, gs3, ↓reduceIte, Nat.reduceEqDiff, Nat.mul_one, Nat.add_zero, Nat.zero_add, Nat.zero_mul, Int.toNat_natCast, Int.reduceToNat, Nat.reduceMul, Nat.reduceAdd, decide_true, decide_false, Bool.not_true, Bool.not_false, true_and, and_true, List.map_cons, List.map_nil, List.nil_append, List.cons_append, List.append_nil, Option.map_some, Option.bind_some, List.getElem?_cons_zero, List.getElem?_cons_succ, Bool.false_eq_true, not_true_eq_false, not_false_eq_true, List.contains_cons, List.contains_nil, Nat.reduceBEq, Bool.true_or, Bool.false_or, Bool.or_true, List.set_cons_zero, List.set_cons_succ, List.length_cons, List.length_nil, isLd, Bool.true_and, Bool.false_and, Bool.and_true, Bool.and_false, e0, e3, e4, h1]
  by_cases hp : s < 2 ^ k
  · have hz : s / 2 ^ k = 0 := Nat.div_eq_of_lt hp
    rw [hz]
    simp (maxSteps := 300000) (disch := omega) only [gs, gs2, gs3, ↓reduceIte, Nat.reduceEqDiff, Nat.mul_one, Nat.add_zero, Nat.zero_add, Nat.zero_mul, Int.toNat_natCast, Int.reduceToNat, Nat.reduceMul, Nat.reduceAdd, decide_true, decide_false, Bool.not_true, Bool.not_false, true_and, and_true, List.map_cons, List.map_nil, List.nil_append, List.cons_append, List.append_nil, Option.map_some, Option.bind_some, List.getElem?_cons_zero, List.getElem?_cons_succ, Bool.false_eq_true, not_true_eq_false, not_false_eq_true, List.contains_cons, List.contains_nil, Nat.reduceBEq, Bool.true_or, Bool.false_or, Bool.or_true, List.set_cons_zero, List.set_cons_succ, List.length_cons, List.length_nil, isLd, Bool.true_and, Bool.false_and, Bool.and_true, Bool.and_false, show ((0 : Int) < ((0 : Nat) : Int)) = False from eq_false (by omega), e0, e3, e4]
    have he := bitsL_end hp (12 - k)
    rw [show k + (12 - k) = 12 by omega] at he
    rw [he] at hk
    exact hk _ _ _ hN
  · have hpos : ((0 : Int) < ((s / 2 ^ k : Nat) : Int)) := by have := shr_pos.2 hp; omega
    have hk12 : k < 12 := by
      rcases Nat.lt_or_ge k 12 with h | h
      · exact h
      · obtain rfl : k = 12 := by omega
        exact absurd hs hp
    simp (maxSteps := 300000) (disch := omega) only [gs, gs2, gs3, ↓reduceIte, Nat.reduceEqDiff, Nat.mul_one, Nat.add_zero, Nat.zero_add, Nat.zero_mul, Int.toNat_natCast, Int.reduceToNat, Nat.reduceMul, Nat.reduceAdd, decide_true, decide_false, Bool.not_true, Bool.not_false, true_and, and_true, List.map_cons, List.map_nil, List.nil_append, List.cons_append, List.append_nil, Option.map_some, Option.bind_some, List.getElem?_cons_zero, List.getElem?_cons_succ, Bool.false_eq_true, not_true_eq_false, not_false_eq_true, List.contains_cons, List.contains_nil, Nat.reduceBEq, Bool.true_or, Bool.false_or, Bool.or_true, List.set_cons_zero, List.set_cons_succ, List.length_cons, List.length_nil, isLd, Bool.true_and, Bool.false_and, Bool.and_true, Bool.and_false, eq_true hpos, e0, e3, e4, h1]
    have hsu := bitsL_succ s k
    by_cases ht : s.testBit k = true
    · rw [if_pos ht] at hsu
      rw [if_pos ht] at h2
      simp (maxSteps := 300000) (disch := omega) only [gs, gs2, gs3, ↓reduceIte, Nat.reduceEqDiff, Nat.mul_one, Nat.add_zero, Nat.zero_add, Nat.zero_mul, Int.toNat_natCast, Int.reduceToNat, Nat.reduceMul, Nat.reduceAdd, decide_true, decide_false, Bool.not_true, Bool.not_false, true_and, and_true, List.map_cons, List.map_nil, List.nil_append, List.cons_append, List.append_nil, Option.map_some, Option.bind_some, List.getElem?_cons_zero, List.getElem?_cons_succ, Bool.false_eq_true, not_true_eq_false, not_false_eq_true, List.contains_cons, List.contains_nil, Nat.reduceBEq, Bool.true_or, Bool.false_or, Bool.or_true, List.set_cons_zero, List.set_cons_succ, List.length_cons, List.length_nil, isLd, Bool.true_and, Bool.false_and, Bool.and_true, Bool.and_false, eq_true (show (1 : Int) = 1 from rfl), e0, e3, e4, h1, h2, gBs]
      refine ⟨by intro v hv; simp at hv; subst hv; rfl, fun b9 hb9 => ?_⟩
      refine ap_new hN (Sub.put hb9 _) (cells_one [.int .i64 (k : Int)] true) (by rfl) (by intro v hv; simp at hv; subst hv; rfl) rfl (by omega) (by omega) (by omega) fun G'' A' c' hN' => ?_
      simp (maxSteps := 300000) (disch := omega) only [gs, gs2, gs3, ↓reduceIte, Nat.reduceEqDiff, Nat.mul_one, Nat.add_zero, Nat.zero_add, Nat.zero_mul, Int.toNat_natCast, Int.reduceToNat, Nat.reduceMul, Nat.reduceAdd, decide_true, decide_false, Bool.not_true, Bool.not_false, true_and, and_true, List.map_cons, List.map_nil, List.nil_append, List.cons_append, List.append_nil, Option.map_some, Option.bind_some, List.getElem?_cons_zero, List.getElem?_cons_succ, Bool.false_eq_true, not_true_eq_false, not_false_eq_true, List.contains_cons, List.contains_nil, Nat.reduceBEq, Bool.true_or, Bool.false_or, Bool.or_true, List.set_cons_zero, List.set_cons_succ, List.length_cons, List.length_nil, isLd, Bool.true_and, Bool.false_and, Bool.and_true, Bool.and_false, e0, e3, e4]
      exact ⟨m - 1, by omega, _, Sub.refl _, k + 1, A', c', by rw [hsu]; simp, rfl, by omega, by omega, by rw [hsu]; exact hN'.cast (by simp [I64]) (by simp)⟩
    · rw [if_neg ht] at hsu
      rw [if_neg ht] at h2
      simp (maxSteps := 300000) (disch := omega) only [gs, gs2, gs3, ↓reduceIte, Nat.reduceEqDiff, Nat.mul_one, Nat.add_zero, Nat.zero_add, Nat.zero_mul, Int.toNat_natCast, Int.reduceToNat, Nat.reduceMul, Nat.reduceAdd, decide_true, decide_false, Bool.not_true, Bool.not_false, true_and, and_true, List.map_cons, List.map_nil, List.nil_append, List.cons_append, List.append_nil, Option.map_some, Option.bind_some, List.getElem?_cons_zero, List.getElem?_cons_succ, Bool.false_eq_true, not_true_eq_false, not_false_eq_true, List.contains_cons, List.contains_nil, Nat.reduceBEq, Bool.true_or, Bool.false_or, Bool.or_true, List.set_cons_zero, List.set_cons_succ, List.length_cons, List.length_nil, isLd, Bool.true_and, Bool.false_and, Bool.and_true, Bool.and_false, show ((0 : Int) = 1) = False from eq_false (by omega), e0, e3, e4, h1, h2]
      exact ⟨m - 1, by omega, _, Sub.refl _, k + 1, A, c, by rw [hsu], rfl, by omega, by omega, by rw [hsu]; exact hN⟩
theorem cw_yes {es : List T3} {xs : List Int} {k : Nat} (h : offE xs (es.getD k z3)) : cwK es xs (k + 1) = cwK es xs k + (es.getD k z3).2.2 := by rw [cwK, if_pos h]
theorem cw_no {es : List T3} {xs : List Int} {k : Nat} (h : ¬ offE xs (es.getD k z3)) : cwK es xs (k + 1) = cwK es xs k := by rw [cwK, if_neg h]
theorem spec_l16Cut_ok {G : GH} {q : Option Addr} {N : Gra} {A B : Option Addr} {c d : Nat} {xs : List Int} (h : GraP G q N A c) (hf : IntS G B d xs) (hn : GraOk N) (hl : xs.length < 2 ^ 40) {K : Value → GH → Prop}
    (hk : K (.int .i64 (cwK N.edges xs N.edges.length)) G) : GC Try.prog 139 [.pointer q, .slice B xs.length d] G K := by
  refine GC_drop (c_spec_l16Cut_i (by simp) ?_)
  have hq := rd_some h.f0
  have f0 := h.f0
  have f1 := h.f1
  have hn4 := hn.2.2.2
  simp (maxSteps := 300000) (disch := omega) only [gs, gs2, gs3, ↓reduceIte, Nat.reduceEqDiff, Nat.mul_one, Nat.add_zero, Nat.zero_add, Nat.zero_mul, Int.toNat_natCast, Int.reduceToNat, Nat.reduceMul, Nat.reduceAdd, decide_true, decide_false, Bool.not_true, Bool.not_false, true_and, and_true, List.map_cons, List.map_nil, List.nil_append, List.cons_append, List.append_nil, Option.map_some, Option.bind_some, List.getElem?_cons_zero, List.getElem?_cons_succ, Bool.false_eq_true, not_true_eq_false, not_false_eq_true, List.contains_cons, List.contains_nil, Nat.reduceBEq, Bool.true_or, Bool.false_or, Bool.or_true, List.set_cons_zero, List.set_cons_succ, List.length_cons, List.length_nil, isLd, Bool.true_and, Bool.false_and, Bool.and_true, Bool.and_false]
  refine gLoop_intro (fun m T G' => ∃ k : Nat, T 0 = .pointer q ∧ T 1 = .slice B xs.length d ∧ T 5 = .int .i64 (cwK N.edges xs k) ∧ T 6 = .int .i64 k ∧ m + k = N.edges.length ∧ k ≤ N.edges.length ∧ G' = G)
    N.edges.length ⟨0, by simp (maxSteps := 300000) (disch := omega) only [gs, gs2, gs3, ↓reduceIte, Nat.reduceEqDiff, Nat.mul_one, Nat.add_zero, Nat.zero_add, Nat.zero_mul, Int.toNat_natCast, Int.reduceToNat, Nat.reduceMul, Nat.reduceAdd, decide_true, decide_false, Bool.not_true, Bool.not_false, true_and, and_true, List.map_cons, List.map_nil, List.nil_append, List.cons_append, List.append_nil, Option.map_some, Option.bind_some, List.getElem?_cons_zero, List.getElem?_cons_succ, Bool.false_eq_true, not_true_eq_false, not_false_eq_true, List.contains_cons, List.contains_nil, Nat.reduceBEq, Bool.true_or, Bool.false_or, Bool.or_true, List.set_cons_zero, List.set_cons_succ, List.length_cons, List.length_nil, isLd, Bool.true_and, Bool.false_and, Bool.and_true, Bool.and_false], by simp (maxSteps := 300000) (disch := omega) only [gs, gs2, gs3, ↓reduceIte, Nat.reduceEqDiff, Nat.mul_one, Nat.add_zero, Nat.zero_add, Nat.zero_mul, Int.toNat_natCast, Int.reduceToNat, Nat.reduceMul, Nat.reduceAdd, decide_true, decide_false, Bool.not_true, Bool.not_false, true_and, and_true, List.map_cons, List.map_nil, List.nil_append, List.cons_append, List.append_nil, Option.map_some, Option.bind_some, List.getElem?_cons_zero, List.getElem?_cons_succ, Bool.false_eq_true, not_true_eq_false, not_false_eq_true, List.contains_cons, List.contains_nil, Nat.reduceBEq, Bool.true_or, Bool.false_or, Bool.or_true, List.set_cons_zero, List.set_cons_succ, List.length_cons, List.length_nil, isLd, Bool.true_and, Bool.false_and, Bool.and_true, Bool.and_false], by simp (maxSteps := 300000) (disch := omega) only [gs, gs2, gs3, ↓reduceIte, Nat.reduceEqDiff, Nat.mul_one, Nat.add_zero, Nat.zero_add, Nat.zero_mul, Int.toNat_natCast, Int.reduceToNat, Nat.reduceMul, Nat.reduceAdd, decide_true, decide_false, Bool.not_true, Bool.not_false, true_and, and_true, List.map_cons, List.map_nil, List.nil_append, List.cons_append, List.append_nil, Option.map_some, Option.bind_some, List.getElem?_cons_zero, List.getElem?_cons_succ, Bool.false_eq_true, not_true_eq_false, not_false_eq_true, List.contains_cons, List.contains_nil, Nat.reduceBEq, Bool.true_or, Bool.false_or, Bool.or_true, List.set_cons_zero, List.set_cons_succ, List.length_cons, List.length_nil, isLd, Bool.true_and, Bool.false_and, Bool.and_true, Bool.and_false] <;> rfl, by simp (maxSteps := 300000) (disch := omega) only [gs, gs2, gs3, ↓reduceIte, Nat.reduceEqDiff, Nat.mul_one, Nat.add_zero, Nat.zero_add, Nat.zero_mul, Int.toNat_natCast, Int.reduceToNat, Nat.reduceMul, Nat.reduceAdd, decide_true, decide_false, Bool.not_true, Bool.not_false, true_and, and_true, List.map_cons, List.map_nil, List.nil_append, List.cons_append, List.append_nil, Option.map_some, Option.bind_some, List.getElem?_cons_zero, List.getElem?_cons_succ, Bool.false_eq_true, not_true_eq_false, not_false_eq_true, List.contains_cons, List.contains_nil, Nat.reduceBEq, Bool.true_or, Bool.false_or, Bool.or_true, List.set_cons_zero, List.set_cons_succ, List.length_cons, List.length_nil, isLd, Bool.true_and, Bool.false_and, Bool.and_true, Bool.and_false] <;> rfl, by omega, by omega, rfl⟩ ?_
  rintro m T G' ⟨k, e0, e1, e5, e6, hm, hkl, rfl⟩
  have hh := h.edges
  have hsn := hh.sn
  have p0 := hh.r0
  have p1 := hh.r1
  have p2 := hh.r2
  simp (maxSteps := 300000) (disch := omega) only [gs, gs2, gs3, ↓reduceIte, Nat.reduceEqDiff, Nat.mul_one, Nat.add_zero, Nat.zero_add, Nat.zero_mul, Int.toNat_natCast, Int.reduceToNat, Nat.reduceMul, Nat.reduceAdd, decide_true, decide_false, Bool.not_true, Bool.not_false, true_and, and_true, List.map_cons, List.map_nil, List.nil_append, List.cons_append, List.append_nil, Option.map_some, Option.bind_some, List.getElem?_cons_zero, List.getElem?_cons_succ, Bool.false_eq_true, not_true_eq_false, not_false_eq_true, List.contains_cons, List.contains_nil, Nat.reduceBEq, Bool.true_or, Bool.false_or, Bool.or_true, List.set_cons_zero, List.set_cons_succ, List.length_cons, List.length_nil, isLd, Bool.true_and, Bool.false_and, Bool.and_true, Bool.and_false, e0, e1, e5, e6, f1]
  by_cases hkk : (k : Int) < N.edges.length
  · simp (maxSteps := 300000) (disch := omega) only [gs, gs2, gs3, ↓reduceIte, Nat.reduceEqDiff, Nat.mul_one, Nat.add_zero, Nat.zero_add, Nat.zero_mul, Int.toNat_natCast, Int.reduceToNat, Nat.reduceMul, Nat.reduceAdd, decide_true, decide_false, Bool.not_true, Bool.not_false, true_and, and_true, List.map_cons, List.map_nil, List.nil_append, List.cons_append, List.append_nil, Option.map_some, Option.bind_some, List.getElem?_cons_zero, List.getElem?_cons_succ, Bool.false_eq_true, not_true_eq_false, not_false_eq_true, List.contains_cons, List.contains_nil, Nat.reduceBEq, Bool.true_or, Bool.false_or, Bool.or_true, List.set_cons_zero, List.set_cons_succ, List.length_cons, List.length_nil, isLd, Bool.true_and, Bool.false_and, Bool.and_true, Bool.and_false, e0, e1, e5, e6, f1, hkk, p0, p1, p2]
    intro b7 hb7
    simp (maxSteps := 300000) (disch := omega) only [gs, gs2, gs3, ↓reduceIte, Nat.reduceEqDiff, Nat.mul_one, Nat.add_zero, Nat.zero_add, Nat.zero_mul, Int.toNat_natCast, Int.reduceToNat, Nat.reduceMul, Nat.reduceAdd, decide_true, decide_false, Bool.not_true, Bool.not_false, true_and, and_true, List.map_cons, List.map_nil, List.nil_append, List.cons_append, List.append_nil, Option.map_some, Option.bind_some, List.getElem?_cons_zero, List.getElem?_cons_succ, Bool.false_eq_true, not_true_eq_false, not_false_eq_true, List.contains_cons, List.contains_nil, Nat.reduceBEq, Bool.true_or, Bool.false_or, Bool.or_true, List.set_cons_zero, List.set_cons_succ, List.length_cons, List.length_nil, isLd, Bool.true_and, Bool.false_and, Bool.and_true, Bool.and_false, e0, e1, e5, e6]
    refine st_fresh (vs := c3 (N.edges.getD k z3)) rfl rfl rfl (c3_one _) ?_
    have s7 := Sub.put hb7 ⟨c3 (N.edges.getD k z3), true⟩
    have q0 : rd (put G' b7 ⟨c3 (N.edges.getD k z3), true⟩) (some ⟨b7, 0, none⟩) = some (.int .i64 (N.edges.getD k z3).1) := rd_box _ _ _ 0 _ rfl
    have q1 : rd (put G' b7 ⟨c3 (N.edges.getD k z3), true⟩) (some ⟨b7, 1, none⟩) = some (.int .i64 (N.edges.getD k z3).2.1) := rd_box _ _ _ 1 _ rfl
    have q2 : rd (put G' b7 ⟨c3 (N.edges.getD k z3), true⟩) (some ⟨b7, 2, none⟩) = some (.int .i64 (N.edges.getD k z3).2.2) := rd_box _ _ _ 2 _ rfl
    have hf7 := hf.sub s7
    have cb := cw_bd hn xs k hkl
    obtain ⟨o1, o2, o3, o4⟩ := hn.2.1 k (by omega)
    have hyes := cw_yes (es := N.edges) (xs := xs) (k := k)
    have hno := cw_no (es := N.edges) (xs := xs) (k := k)
    unfold offE at hyes hno
    revert q0 q1 q2 s7 hf7
    generalize put G' b7 ⟨c3 (N.edges.getD k z3), true⟩ = H
    intro s7 q0 q1 q2 hf7
    simp (maxSteps := 300000) (disch := omega) only [gs, gs2, gs3, ↓reduceIte, Nat.reduceEqDiff, Nat.mul_one, Nat.add_zero, Nat.zero_add, Nat.zero_mul, Int.toNat_natCast, Int.reduceToNat, Nat.reduceMul, Nat.reduceAdd, decide_true, decide_false, Bool.not_true, Bool.not_false, true_and, and_true, List.map_cons, List.map_nil, List.nil_append, List.cons_append, List.append_nil, Option.map_some, Option.bind_some, List.getElem?_cons_zero, List.getElem?_cons_succ, Bool.false_eq_true, not_true_eq_false, not_false_eq_true, List.contains_cons, List.contains_nil, Nat.reduceBEq, Bool.true_or, Bool.false_or, Bool.or_true, List.set_cons_zero, List.set_cons_succ, List.length_cons, List.length_nil, isLd, Bool.true_and, Bool.false_and, Bool.and_true, Bool.and_false, e0, e1, e5, e6, q0, q1, q2]
    refine spec_l00Has_ok hf7 hl fun c1 h1 => ?_
    simp (maxSteps := 300000) (disch := omega) only [gs, gs2, gs3, ↓reduceIte, Nat.reduceEqDiff, Nat.mul_one, Nat.add_zero, Nat.zero_add, Nat.zero_mul, Int.toNat_natCast, Int.reduceToNat, Nat.reduceMul, Nat.reduceAdd, decide_true, decide_false, Bool.not_true, Bool.not_false, true_and, and_true, List.map_cons, List.map_nil, List.nil_append, List.cons_append, List.append_nil, Option.map_some, Option.bind_some, List.getElem?_cons_zero, List.getElem?_cons_succ, Bool.false_eq_true, not_true_eq_false, not_false_eq_true, List.contains_cons, List.contains_nil, Nat.reduceBEq, Bool.true_or, Bool.false_or, Bool.or_true, List.set_cons_zero, List.set_cons_succ, List.length_cons, List.length_nil, isLd, Bool.true_and, Bool.false_and, Bool.and_true, Bool.and_false, e0, e1, e5, e6, q0, q1, q2]
    refine spec_l00Has_ok hf7 hl fun c2 h2 => ?_
    cases c1 <;> cases c2
    · simp (maxSteps := 300000) (disch := omega) only [gs, gs2, gs3, ↓reduceIte, Nat.reduceEqDiff, Nat.mul_one, Nat.add_zero, Nat.zero_add, Nat.zero_mul, Int.toNat_natCast, Int.reduceToNat, Nat.reduceMul, Nat.reduceAdd, decide_true, decide_false, Bool.not_true, Bool.not_false, true_and, and_true, List.map_cons, List.map_nil, List.nil_append, List.cons_append, List.append_nil, Option.map_some, Option.bind_some, List.getElem?_cons_zero, List.getElem?_cons_succ, Bool.false_eq_true, not_true_eq_false, not_false_eq_true, List.contains_cons, List.contains_nil, Nat.reduceBEq, Bool.true_or, Bool.false_or, Bool.or_true, List.set_cons_zero, List.set_cons_succ, List.length_cons, List.length_nil, isLd, Bool.true_and, Bool.false_and, Bool.and_true, Bool.and_false, e0, e1, e5, e6, q0, q1, q2]
      exact ⟨m - 1, by omega, G', s7, k + 1, by rw [hno (fun y => y (by rw [← h1, ← h2]))], rfl, by omega, by omega, rfl⟩
    · have hy := hyes (by rw [← h1, ← h2]; simp)
      simp (maxSteps := 300000) (disch := omega) only [gs, gs2, gs3, ↓reduceIte, Nat.reduceEqDiff, Nat.mul_one, Nat.add_zero, Nat.zero_add, Nat.zero_mul, Int.toNat_natCast, Int.reduceToNat, Nat.reduceMul, Nat.reduceAdd, decide_true, decide_false, Bool.not_true, Bool.not_false, true_and, and_true, List.map_cons, List.map_nil, List.nil_append, List.cons_append, List.append_nil, Option.map_some, Option.bind_some, List.getElem?_cons_zero, List.getElem?_cons_succ, Bool.false_eq_true, not_true_eq_false, not_false_eq_true, List.contains_cons, List.contains_nil, Nat.reduceBEq, Bool.true_or, Bool.false_or, Bool.or_true, List.set_cons_zero, List.set_cons_succ, List.length_cons, List.length_nil, isLd, Bool.true_and, Bool.false_and, Bool.and_true, Bool.and_false, show ((true : Bool) = false) = False from eq_false (by simp), e0, e1, e5, e6, q0, q1, q2]
      exact ⟨m - 1, by omega, G', s7, k + 1, by rw [hy], rfl, by omega, by omega, rfl⟩
    · have hy := hyes (by rw [← h1, ← h2]; simp)
      simp (maxSteps := 300000) (disch := omega) only [gs, gs2, gs3, ↓reduceIte, Nat.reduceEqDiff, Nat.mul_one, Nat.add_zero, Nat.zero_add, Nat.zero_mul, Int.toNat_natCast, Int.reduceToNat, Nat.reduceMul, Nat.reduceAdd, decide_true, decide_false, Bool.not_true, Bool.not_false, true_and, and_true, List.map_cons, List.map_nil, List.nil_append, List.cons_append, List.append_nil, Option.map_some, Option.bind_some, List.getElem?_cons_zero, List.getElem?_cons_succ, Bool.false_eq_true, not_true_eq_false, not_false_eq_true, List.contains_cons, List.contains_nil, Nat.reduceBEq, Bool.true_or, Bool.false_or, Bool.or_true, List.set_cons_zero, List.set_cons_succ, List.length_cons, List.length_nil, isLd, Bool.true_and, Bool.false_and, Bool.and_true, Bool.and_false, show ((true : Bool) = false) = False from eq_false (by simp), e0, e1, e5, e6, q0, q1, q2]
      exact ⟨m - 1, by omega, G', s7, k + 1, by rw [hy], rfl, by omega, by omega, rfl⟩
    · simp (maxSteps := 300000) (disch := omega) only [gs, gs2, gs3, ↓reduceIte, Nat.reduceEqDiff, Nat.mul_one, Nat.add_zero, Nat.zero_add, Nat.zero_mul, Int.toNat_natCast, Int.reduceToNat, Nat.reduceMul, Nat.reduceAdd, decide_true, decide_false, Bool.not_true, Bool.not_false, true_and, and_true, List.map_cons, List.map_nil, List.nil_append, List.cons_append, List.append_nil, Option.map_some, Option.bind_some, List.getElem?_cons_zero, List.getElem?_cons_succ, Bool.false_eq_true, not_true_eq_false, not_false_eq_true, List.contains_cons, List.contains_nil, Nat.reduceBEq, Bool.true_or, Bool.false_or, Bool.or_true, List.set_cons_zero, List.set_cons_succ, List.length_cons, List.length_nil, isLd, Bool.true_and, Bool.false_and, Bool.and_true, Bool.and_false, e0, e1, e5, e6, q0, q1, q2]
      exact ⟨m - 1, by omega, G', s7, k + 1, by rw [hno (fun y => y (by rw [← h1, ← h2]))], rfl, by omega, by omega, rfl⟩
  · simp (maxSteps := 300000) (disch := omega) only [gs, gs2, gs3, ↓reduceIte, Nat.reduceEqDiff, Nat.mul_one, Nat.add_zero, Nat.zero_add, Nat.zero_mul, Int.toNat_natCast, Int.reduceToNat, Nat.reduceMul, Nat.reduceAdd, decide_true, decide_false, Bool.not_true, Bool.not_false, true_and, and_true, List.map_cons, List.map_nil, List.nil_append, List.cons_append, List.append_nil, Option.map_some, Option.bind_some, List.getElem?_cons_zero, List.getElem?_cons_succ, Bool.false_eq_true, not_true_eq_false, not_false_eq_true, List.contains_cons, List.contains_nil, Nat.reduceBEq, Bool.true_or, Bool.false_or, Bool.or_true, List.set_cons_zero, List.set_cons_succ, List.length_cons, List.length_nil, isLd, Bool.true_and, Bool.false_and, Bool.and_true, Bool.and_false, e0, e1, e5, e6, f1, hkk]
    obtain rfl : k = N.edges.length := by omega
    exact ⟨G', Sub.refl _, hk⟩
theorem impl_cutWeight_ok {G : GH} {N : Gra} {A B : Option Addr} {c d : Nat} {xs : List Int} (h : T3S G A c N.edges) (hf : IntS G B d xs) (hn : GraOk N) (hl : xs.length < 2 ^ 40) {K : Value → GH → Prop}
    (hk : K (.int .i64 (cwK N.edges xs N.edges.length)) G) : GC Try.prog 143 [graV N A c, .slice B xs.length d] G K := by
  refine GC_drop (c_impl_cutWeight_i (by simp) ?_)
  have hn4 := hn.2.2.2
  unfold graV graC
  simp (maxSteps := 300000) (disch := omega) only [gs, gs2, gs3, ↓reduceIte, Nat.reduceEqDiff, Nat.mul_one, Nat.add_zero, Nat.zero_add, Nat.zero_mul, Int.toNat_natCast, Int.reduceToNat, Nat.reduceMul, Nat.reduceAdd, decide_true, decide_false, Bool.not_true, Bool.not_false, true_and, and_true, List.map_cons, List.map_nil, List.nil_append, List.cons_append, List.append_nil, Option.map_some, Option.bind_some, List.getElem?_cons_zero, List.getElem?_cons_succ, Bool.false_eq_true, not_true_eq_false, not_false_eq_true, List.contains_cons, List.contains_nil, Nat.reduceBEq, Bool.true_or, Bool.false_or, Bool.or_true, List.set_cons_zero, List.set_cons_succ, List.length_cons, List.length_nil, isLd, Bool.true_and, Bool.false_and, Bool.and_true, Bool.and_false]
  intro b1 hb1
  have s1 := Sub.put hb1 ⟨[.int .i64 N.n, .slice A N.edges.length c], true⟩
  have f1 : rd (put G b1 ⟨[.int .i64 N.n, .slice A N.edges.length c], true⟩) (some ⟨b1, 1, none⟩) = some (.slice A N.edges.length c) := rd_box _ _ _ 1 _ rfl
  revert s1 f1
  generalize put G b1 ⟨[.int .i64 N.n, .slice A N.edges.length c], true⟩ = G1
  intro s1 f1
  simp (maxSteps := 300000) (disch := omega) only [gs, gs2, gs3, ↓reduceIte, Nat.reduceEqDiff, Nat.mul_one, Nat.add_zero, Nat.zero_add, Nat.zero_mul, Int.toNat_natCast, Int.reduceToNat, Nat.reduceMul, Nat.reduceAdd, decide_true, decide_false, Bool.not_true, Bool.not_false, true_and, and_true, List.map_cons, List.map_nil, List.nil_append, List.cons_append, List.append_nil, Option.map_some, Option.bind_some, List.getElem?_cons_zero, List.getElem?_cons_succ, Bool.false_eq_true, not_true_eq_false, not_false_eq_true, List.contains_cons, List.contains_nil, Nat.reduceBEq, Bool.true_or, Bool.false_or, Bool.or_true, List.set_cons_zero, List.set_cons_succ, List.length_cons, List.length_nil, isLd, Bool.true_and, Bool.false_and, Bool.and_true, Bool.and_false, f1]
  refine gLoop_intro (fun m T G' => ∃ k : Nat, T 1 = .slice B xs.length d ∧ T 5 = .int .i64 (cwK N.edges xs k) ∧ T 9 = .slice A N.edges.length c ∧ T 10 = .int .i64 N.edges.length ∧ T 11 = .int .i64 k ∧ m + k = N.edges.length ∧ k ≤ N.edges.length ∧ G' = G1)
    N.edges.length ⟨0, by simp (maxSteps := 300000) (disch := omega) only [gs, gs2, gs3, ↓reduceIte, Nat.reduceEqDiff, Nat.mul_one, Nat.add_zero, Nat.zero_add, Nat.zero_mul, Int.toNat_natCast, Int.reduceToNat, Nat.reduceMul, Nat.reduceAdd, decide_true, decide_false, Bool.not_true, Bool.not_false, true_and, and_true, List.map_cons, List.map_nil, List.nil_append, List.cons_append, List.append_nil, Option.map_some, Option.bind_some, List.getElem?_cons_zero, List.getElem?_cons_succ, Bool.false_eq_true, not_true_eq_false, not_false_eq_true, List.contains_cons, List.contains_nil, Nat.reduceBEq, Bool.true_or, Bool.false_or, Bool.or_true, List.set_cons_zero, List.set_cons_succ, List.length_cons, List.length_nil, isLd, Bool.true_and, Bool.false_and, Bool.and_true, Bool.and_false], by simp (maxSteps := 300000) (disch := omega) only [gs, gs2, gs3, ↓reduceIte, Nat.reduceEqDiff, Nat.mul_one, Nat.add_zero, Nat.zero_add, Nat.zero_mul, Int.toNat_natCast, Int.reduceToNat, Nat.reduceMul, Nat.reduceAdd, decide_true, decide_false, Bool.not_true, Bool.not_false, true_and, and_true, List.map_cons, List.map_nil, List.nil_append, List.cons_append, List.append_nil, Option.map_some, Option.bind_some, List.getElem?_cons_zero, List.getElem?_cons_succ, Bool.false_eq_true, not_true_eq_false, not_false_eq_true, List.contains_cons, List.contains_nil, Nat.reduceBEq, Bool.true_or, Bool.false_or, Bool.or_true, List.set_cons_zero, List.set_cons_succ, List.length_cons, List.length_nil, isLd, Bool.true_and, Bool.false_and, Bool.and_true, Bool.and_false] <;> rfl, by simp (maxSteps := 300000) (disch := omega) only [gs, gs2, gs3, ↓reduceIte, Nat.reduceEqDiff, Nat.mul_one, Nat.add_zero, Nat.zero_add, Nat.zero_mul, Int.toNat_natCast, Int.reduceToNat, Nat.reduceMul, Nat.reduceAdd, decide_true, decide_false, Bool.not_true, Bool.not_false, true_and, and_true, List.map_cons, List.map_nil, List.nil_append, List.cons_append, List.append_nil, Option.map_some, Option.bind_some, List.getElem?_cons_zero, List.getElem?_cons_succ, Bool.false_eq_true, not_true_eq_false, not_false_eq_true, List.contains_cons, List.contains_nil, Nat.reduceBEq, Bool.true_or, Bool.false_or, Bool.or_true, List.set_cons_zero, List.set_cons_succ, List.length_cons, List.length_nil, isLd, Bool.true_and, Bool.false_and, Bool.and_true, Bool.and_false], by simp (maxSteps := 300000) (disch := omega) only [gs, gs2, gs3, ↓reduceIte, Nat.reduceEqDiff, Nat.mul_one, Nat.add_zero, Nat.zero_add, Nat.zero_mul, Int.toNat_natCast, Int.reduceToNat, Nat.reduceMul, Nat.reduceAdd, decide_true, decide_false, Bool.not_true, Bool.not_false, true_and, and_true, List.map_cons, List.map_nil, List.nil_append, List.cons_append, List.append_nil, Option.map_some, Option.bind_some, List.getElem?_cons_zero, List.getElem?_cons_succ, Bool.false_eq_true, not_true_eq_false, not_false_eq_true, List.contains_cons, List.contains_nil, Nat.reduceBEq, Bool.true_or, Bool.false_or, Bool.or_true, List.set_cons_zero, List.set_cons_succ, List.length_cons, List.length_nil, isLd, Bool.true_and, Bool.false_and, Bool.and_true, Bool.and_false], by simp (maxSteps := 300000) (disch := omega) only [gs, gs2, gs3, ↓reduceIte, Nat.reduceEqDiff, Nat.mul_one, Nat.add_zero, Nat.zero_add, Nat.zero_mul, Int.toNat_natCast, Int.reduceToNat, Nat.reduceMul, Nat.reduceAdd, decide_true, decide_false, Bool.not_true, Bool.not_false, true_and, and_true, List.map_cons, List.map_nil, List.nil_append, List.cons_append, List.append_nil, Option.map_some, Option.bind_some, List.getElem?_cons_zero, List.getElem?_cons_succ, Bool.false_eq_true, not_true_eq_false, not_false_eq_true, List.contains_cons, List.contains_nil, Nat.reduceBEq, Bool.true_or, Bool.false_or, Bool.or_true, List.set_cons_zero, List.set_cons_succ, List.length_cons, List.length_nil, isLd, Bool.true_and, Bool.false_and, Bool.and_true, Bool.and_false] <;> rfl, by omega, by omega, rfl⟩ ?_
  rintro m T G' ⟨k, e1, e5, e9, e10, e11, hm, hkl, rfl⟩
  have hh := h.sub s1
  have hsn := hh.sn
  have p0 := hh.r0
  have p1 := hh.r1
  have p2 := hh.r2
  simp (maxSteps := 300000) (disch := omega) only [gs, gs2, gs3, ↓reduceIte, Nat.reduceEqDiff, Nat.mul_one, Nat.add_zero, Nat.zero_add, Nat.zero_mul, Int.toNat_natCast, Int.reduceToNat, Nat.reduceMul, Nat.reduceAdd, decide_true, decide_false, Bool.not_true, Bool.not_false, true_and, and_true, List.map_cons, List.map_nil, List.nil_append, List.cons_append, List.append_nil, Option.map_some, Option.bind_some, List.getElem?_cons_zero, List.getElem?_cons_succ, Bool.false_eq_true, not_true_eq_false, not_false_eq_true, List.contains_cons, List.contains_nil, Nat.reduceBEq, Bool.true_or, Bool.false_or, Bool.or_true, List.set_cons_zero, List.set_cons_succ, List.length_cons, List.length_nil, isLd, Bool.true_and, Bool.false_and, Bool.and_true, Bool.and_false, e1, e5, e9, e10, e11]
  by_cases hkk : (k : Int) < N.edges.length
  · simp (maxSteps := 300000) (disch := omega) only [gs, gs2, gs3, ↓reduceIte, Nat.reduceEqDiff, Nat.mul_one, Nat.add_zero, Nat.zero_add, Nat.zero_mul, Int.toNat_natCast, Int.reduceToNat, Nat.reduceMul, Nat.reduceAdd, decide_true, decide_false, Bool.not_true, Bool.not_false, true_and, and_true, List.map_cons, List.map_nil, List.nil_append, List.cons_append, List.append_nil, Option.map_some, Option.bind_some, List.getElem?_cons_zero, List.getElem?_cons_succ, Bool.false_eq_true, not_true_eq_false, not_false_eq_true, List.contains_cons, List.contains_nil, Nat.reduceBEq, Bool.true_or, Bool.false_or, Bool.or_true, List.set_cons_zero, List.set_cons_succ, List.length_cons, List.length_nil, isLd, Bool.true_and, Bool.false_and, Bool.and_true, Bool.and_false, e1, e5, e9, e10, e11, hkk, p0, p1, p2]
    intro b7 hb7
    simp (maxSteps := 300000) (disch := omega) only [gs, gs2, gs3, ↓reduceIte, Nat.reduceEqDiff, Nat.mul_one, Nat.add_zero, Nat.zero_add, Nat.zero_mul, Int.toNat_natCast, Int.reduceToNat, Nat.reduceMul, Nat.reduceAdd, decide_true, decide_false, Bool.not_true, Bool.not_false, true_and, and_true, List.map_cons, List.map_nil, List.nil_append, List.cons_append, List.append_nil, Option.map_some, Option.bind_some, List.getElem?_cons_zero, List.getElem?_cons_succ, Bool.false_eq_true, not_true_eq_false, not_false_eq_true, List.contains_cons, List.contains_nil, Nat.reduceBEq, Bool.true_or, Bool.false_or, Bool.or_true, List.set_cons_zero, List.set_cons_succ, List.length_cons, List.length_nil, isLd, Bool.true_and, Bool.false_and, Bool.and_true, Bool.and_false, e1, e5, e9, e10, e11]
    refine st_fresh (vs := c3 (N.edges.getD k z3)) rfl rfl rfl (c3_one _) ?_
    have s7 := Sub.put hb7 ⟨c3 (N.edges.getD k z3), true⟩
    have q0 : rd (put G' b7 ⟨c3 (N.edges.getD k z3), true⟩) (some ⟨b7, 0, none⟩) = some (.int .i64 (N.edges.getD k z3).1) := rd_box _ _ _ 0 _ rfl
    have q1 : rd (put G' b7 ⟨c3 (N.edges.getD k z3), true⟩) (some ⟨b7, 1, none⟩) = some (.int .i64 (N.edges.getD k z3).2.1) := rd_box _ _ _ 1 _ rfl
    have q2 : rd (put G' b7 ⟨c3 (N.edges.getD k z3), true⟩) (some ⟨b7, 2, none⟩) = some (.int .i64 (N.edges.getD k z3).2.2) := rd_box _ _ _ 2 _ rfl
    have hf7 := (hf.sub s1).sub s7
    have cb := cw_bd hn xs k hkl
    obtain ⟨o1, o2, o3, o4⟩ := hn.2.1 k (by omega)
    have hyes := cw_yes (es := N.edges) (xs := xs) (k := k)
    have hno := cw_no (es := N.edges) (xs := xs) (k := k)
    unfold offE at hyes hno
    revert q0 q1 q2 s7 hf7
    generalize put G' b7 ⟨c3 (N.edges.getD k z3), true⟩ = H
    intro s7 q0 q1 q2 hf7
    simp (maxSteps := 300000) (disch := omega) only [gs, gs2, gs3, ↓reduceIte, Nat.reduceEqDiff, Nat.mul_one, Nat.add_zero, Nat.zero_add, Nat.zero_mul, Int.toNat_natCast, Int.reduceToNat, Nat.reduceMul, Nat.reduceAdd, decide_true, decide_false, Bool.not_true, Bool.not_false, true_and, and_true, List.map_cons, List.map_nil, List.nil_append, List.cons_append, List.append_nil, Option.map_some, Option.bind_some, List.getElem?_cons_zero, List.getElem?_cons_succ, Bool.false_eq_true, not_true_eq_false, not_false_eq_true, List.contains_cons, List.contains_nil, Nat.reduceBEq, Bool.true_or, Bool.false_or, Bool.or_true, List.set_cons_zero, List.set_cons_succ, List.length_cons, List.length_nil, isLd, Bool.true_and, Bool.false_and, Bool.and_true, Bool.and_false, e1, e5, e9, e10, e11, q0, q1, q2]
    refine slices_Contains_ok hf7 hl fun c1 h1 => ?_
    simp (maxSteps := 300000) (disch := omega) only [gs, gs2, gs3, ↓reduceIte, Nat.reduceEqDiff, Nat.mul_one, Nat.add_zero, Nat.zero_add, Nat.zero_mul, Int.toNat_natCast, Int.reduceToNat, Nat.reduceMul, Nat.reduceAdd, decide_true, decide_false, Bool.not_true, Bool.not_false, true_and, and_true, List.map_cons, List.map_nil, List.nil_append, List.cons_append, List.append_nil, Option.map_some, Option.bind_some, List.getElem?_cons_zero, List.getElem?_cons_succ, Bool.false_eq_true, not_true_eq_false, not_false_eq_true, List.contains_cons, List.contains_nil, Nat.reduceBEq, Bool.true_or, Bool.false_or, Bool.or_true, List.set_cons_zero, List.set_cons_succ, List.length_cons, List.length_nil, isLd, Bool.true_and, Bool.false_and, Bool.and_true, Bool.and_false, e1, e5, e9, e10, e11, q0, q1, q2]
    refine slices_Contains_ok hf7 hl fun c2 h2 => ?_
    cases c1 <;> cases c2
    · simp (maxSteps := 300000) (disch := omega) only [gs, gs2, gs3, ↓reduceIte, Nat.reduceEqDiff, Nat.mul_one, Nat.add_zero, Nat.zero_add, Nat.zero_mul, Int.toNat_natCast, Int.reduceToNat, Nat.reduceMul, Nat.reduceAdd, decide_true, decide_false, Bool.not_true, Bool.not_false, true_and, and_true, List.map_cons, List.map_nil, List.nil_append, List.cons_append, List.append_nil, Option.map_some, Option.bind_some, List.getElem?_cons_zero, List.getElem?_cons_succ, Bool.false_eq_true, not_true_eq_false, not_false_eq_true, List.contains_cons, List.contains_nil, Nat.reduceBEq, Bool.true_or, Bool.false_or, Bool.or_true, List.set_cons_zero, List.set_cons_succ, List.length_cons, List.length_nil, isLd, Bool.true_and, Bool.false_and, Bool.and_true, Bool.and_false, e1, e5, e9, e10, e11, q0, q1, q2]
      exact ⟨m - 1, by omega, G', s7, k + 1, by rw [hno (fun y => y (by rw [← h1, ← h2]))], rfl, by omega, by omega, rfl⟩
    · have hy := hyes (by rw [← h1, ← h2]; simp)
      simp (maxSteps := 300000) (disch := omega) only [gs, gs2, gs3, ↓reduceIte, Nat.reduceEqDiff, Nat.mul_one, Nat.add_zero, Nat.zero_add, Nat.zero_mul, Int.toNat_natCast, Int.reduceToNat, Nat.reduceMul, Nat.reduceAdd, decide_true, decide_false, Bool.not_true, Bool.not_false, true_and, and_true, List.map_cons, List.map_nil, List.nil_append, List.cons_append, List.append_nil, Option.map_some, Option.bind_some, List.getElem?_cons_zero, List.getElem?_cons_succ, Bool.false_eq_true, not_true_eq_false, not_false_eq_true, List.contains_cons, List.contains_nil, Nat.reduceBEq, Bool.true_or, Bool.false_or, Bool.or_true, List.set_cons_zero, List.set_cons_succ, List.length_cons, List.length_nil, isLd, Bool.true_and, Bool.false_and, Bool.and_true, Bool.and_false, show ((true : Bool) = false) = False from eq_false (by simp), e1, e5, e9, e10, e11, q0, q1, q2]
      exact ⟨m - 1, by omega, G', s7, k + 1, by rw [hy], rfl, by omega, by omega, rfl⟩
    · have hy := hyes (by rw [← h1, ← h2]; simp)
      simp (maxSteps := 300000) (disch := omega) only [gs, gs2, gs3, ↓reduceIte, Nat.reduceEqDiff, Nat.mul_one, Nat.add_zero, Nat.zero_add, Nat.zero_mul, Int.toNat_natCast, Int.reduceToNat, Nat.reduceMul, Nat.reduceAdd, decide_true, decide_false, Bool.not_true, Bool.not_false, true_and, and_true, List.map_cons, List.map_nil, List.nil_append, List.cons_append, List.append_nil, Option.map_some, Option.bind_some, List.getElem?_cons_zero, List.getElem?_cons_succ, Bool.false_eq_true, not_true_eq_false, not_false_eq_true, List.contains_cons, List.contains_nil, Nat.reduceBEq, Bool.true_or, Bool.false_or, Bool.or_true, List.set_cons_zero, List.set_cons_succ, List.length_cons, List.length_nil, isLd, Bool.true_and, Bool.false_and, Bool.and_true, Bool.and_false, show ((true : Bool) = false) = False from eq_false (by simp), e1, e5, e9, e10, e11, q0, q1, q2]
      exact ⟨m - 1, by omega, G', s7, k + 1, by rw [hy], rfl, by omega, by omega, rfl⟩
    · simp (maxSteps := 300000) (disch := omega) only [gs, gs2, gs3, ↓reduceIte, Nat.reduceEqDiff, Nat.mul_one, Nat.add_zero, Nat.zero_add, Nat.zero_mul, Int.toNat_natCast, Int.reduceToNat, Nat.reduceMul, Nat.reduceAdd, decide_true, decide_false, Bool.not_true, Bool.not_false, true_and, and_true, List.map_cons, List.map_nil, List.nil_append, List.cons_append, List.append_nil, Option.map_some, Option.bind_some, List.getElem?_cons_zero, List.getElem?_cons_succ, Bool.false_eq_true, not_true_eq_false, not_false_eq_true, List.contains_cons, List.contains_nil, Nat.reduceBEq, Bool.true_or, Bool.false_or, Bool.or_true, List.set_cons_zero, List.set_cons_succ, List.length_cons, List.length_nil, isLd, Bool.true_and, Bool.false_and, Bool.and_true, Bool.and_false, e1, e5, e9, e10, e11, q0, q1, q2]
      exact ⟨m - 1, by omega, G', s7, k + 1, by rw [hno (fun y => y (by rw [← h1, ← h2]))], rfl, by omega, by omega, rfl⟩
  · simp (maxSteps := 300000) (disch := omega) only [gs, gs2, gs3, ↓reduceIte, Nat.reduceEqDiff, Nat.mul_one, Nat.add_zero, Nat.zero_add, Nat.zero_mul, Int.toNat_natCast, Int.reduceToNat, Nat.reduceMul, Nat.reduceAdd, decide_true, decide_false, Bool.not_true, Bool.not_false, true_and, and_true, List.map_cons, List.map_nil, List.nil_append, List.cons_append, List.append_nil, Option.map_some, Option.bind_some, List.getElem?_cons_zero, List.getElem?_cons_succ, Bool.false_eq_true, not_true_eq_false, not_false_eq_true, List.contains_cons, List.contains_nil, Nat.reduceBEq, Bool.true_or, Bool.false_or, Bool.or_true, List.set_cons_zero, List.set_cons_succ, List.length_cons, List.length_nil, isLd, Bool.true_and, Bool.false_and, Bool.and_true, Bool.and_false, e1, e5, e9, e10, e11, hkk]
    obtain rfl : k = N.edges.length := by omega
    exact ⟨G, s1, hk⟩
def lbO : Option (List Int × Int) → List Int
  | none => []
  | some p => p.1
def lwO (d : Int) : Option (List Int × Int) → Int
  | none => d
  | some p => p.2
theorem ltK_bd {N : Gra} (hn : GraOk N) {n b : Nat} {p : List Int × Int} (h : ltK N.edges n b = some p) : 0 ≤ p.2 ∧ p.2 ≤ 216 ∧ ∃ c, c < b ∧ p.1 = bitsL (2 * c + 1) n := by
  rcases Nat.eq_zero_or_pos b with rfl | hb
  · cases h
  · obtain ⟨c, hc, e, _⟩ := ltK_some N.edges n b hb
    rw [e] at h; cases h
    have := cw_bd hn (bitsL (2 * c + 1) n) _ (Nat.le_refl _)
    have h4 := hn.2.2.2
    exact ⟨this.1, by dsimp only; omega, c, hc, rfl⟩
theorem ltK_yes {es : List T3} {n b : Nat} (h : ltK es n b = none ∨ ∃ p, ltK es n b = some p ∧ (cwK es (bitsL (2 * b + 1) n) es.length < p.2 ∨ cwK es (bitsL (2 * b + 1) n) es.length = p.2 ∧ lexC (bitsL (2 * b + 1) n) p.1 < 0)) : ltK es n (b + 1) = some (bitsL (2 * b + 1) n, cwK es (bitsL (2 * b + 1) n) es.length) := by
  rw [ltK]
  rcases h with h | ⟨p, h, hc⟩
  · rw [h]
  · rw [h]; dsimp only; rw [if_pos hc]
theorem ltK_no {es : List T3} {n b : Nat} {p : List Int × Int} (h : ltK es n b = some p) (hc : ¬ (cwK es (bitsL (2 * b + 1) n) es.length < p.2 ∨ cwK es (bitsL (2 * b + 1) n) es.length = p.2 ∧ lexC (bitsL (2 * b + 1) n) p.1 < 0)) : ltK es n (b + 1) = some p := by
  rw [ltK, h]; dsimp only; rw [if_neg hc]
open Classical in
noncomputable def lightV (N : Gra) : List Int × Int × Int := if GraOk N then if N.n = 1 then ([], 0, 6) else ((ltV N).1, (ltV N).2, 0) else ([], 0, 1)
theorem ltV_eq {N : Gra} : ltV N = (lbO (ltK N.edges N.n.toNat (2 ^ (N.n.toNat - 1) - 1)), lwO 0 (ltK N.edges N.n.toNat (2 ^ (N.n.toNat - 1) - 1))) := by
  unfold ltV
  cases ltK N.edges N.n.toNat (2 ^ (N.n.toNat - 1) - 1) <;> rfl
theorem lightV_len (N : Gra) : (lightV N).1.length ≤ 2 ^ 20 := by
  unfold lightV
  split
  · rename_i hn
    have hn1 := hn.1
    split
    · simp
    · rw [ltV_eq]
      dsimp only
      cases h : ltK N.edges N.n.toNat (2 ^ (N.n.toNat - 1) - 1) with
      | none => simp [lbO]
      | some p =>
        obtain ⟨_, _, c, _, e⟩ := ltK_bd hn h
        have := bitsL_len (2 * c + 1) N.n.toNat
        simp only [lbO, e]; omega
  · simp
theorem pow_half {n : Nat} (h : 2 ≤ n) (hn : n ≤ 12) : 2 ^ n = 2 * 2 ^ (n - 1) ∧ 2 ≤ 2 ^ (n - 1) ∧ 2 ^ (n - 1) ≤ 2048 := by
  obtain ⟨m, rfl⟩ : ∃ m, n = m + 2 := ⟨n - 2, by omega⟩
  have h1 : (2 : Nat) ^ (m + 2 - 1) ≤ 2 ^ 11 := Nat.pow_le_pow_right (by omega) (by omega)
  have h2 : (2 : Nat) ^ 1 ≤ 2 ^ (m + 2 - 1) := Nat.pow_le_pow_right (by omega) (by omega)
  refine ⟨?_, by omega, by omega⟩
  rw [show m + 2 - 1 = m + 1 by omega, Nat.pow_succ 2 (m + 1)]; omega
theorem spec_LightestCut_ok {G : GH} {N : Gra} {A : Option Addr} {c : Nat} (h : T3S G A c N.edges) (hl : N.edges.length < 2 ^ 40) {K : Value → GH → Prop}
    (hk : LII (lightV N) K G) : GC Try.prog 54 [graV N A c] G K := by
  refine GC_drop (c_spec_LightestCut_i (by simp) ?_)
  unfold graV
  simp (maxSteps := 300000) (disch := omega) only [gs, gs2, gs3, ↓reduceIte, Nat.reduceEqDiff, Nat.mul_one, Nat.add_zero, Nat.zero_add, Nat.zero_mul, Int.toNat_natCast, Int.reduceToNat, Nat.reduceMul, Nat.reduceAdd, decide_true, decide_false, Bool.not_true, Bool.not_false, true_and, and_true, List.map_cons, List.map_nil, List.nil_append, List.cons_append, List.append_nil, Option.map_some, Option.bind_some, List.getElem?_cons_zero, List.getElem?_cons_succ, Bool.false_eq_true, not_true_eq_false, not_false_eq_true, List.contains_cons, List.contains_nil, Nat.reduceBEq, Bool.true_or, Bool.false_or, Bool.or_true, List.set_cons_zero, List.set_cons_succ, List.length_cons, List.length_nil, isLd, Bool.true_and, Bool.false_and, Bool.and_true, Bool.and_false]
  intro b1 hb1
  have hP := GraP.box hb1 h
  have s1 := Sub.put hb1 ⟨graC N A c, true⟩
  revert hP s1
  generalize put G b1 ⟨graC N A c, true⟩ = G1
  intro hP s1
  simp (maxSteps := 300000) (disch := omega) only [gs, gs2, gs3, ↓reduceIte, Nat.reduceEqDiff, Nat.mul_one, Nat.add_zero, Nat.zero_add, Nat.zero_mul, Int.toNat_natCast, Int.reduceToNat, Nat.reduceMul, Nat.reduceAdd, decide_true, decide_false, Bool.not_true, Bool.not_false, true_and, and_true, List.map_cons, List.map_nil, List.nil_append, List.cons_append, List.append_nil, Option.map_some, Option.bind_some, List.getElem?_cons_zero, List.getElem?_cons_succ, Bool.false_eq_true, not_true_eq_false, not_false_eq_true, List.contains_cons, List.contains_nil, Nat.reduceBEq, Bool.true_or, Bool.false_or, Bool.or_true, List.set_cons_zero, List.set_cons_succ, List.length_cons, List.length_nil, isLd, Bool.true_and, Bool.false_and, Bool.and_true, Bool.and_false]
  refine spec_l16Ok_ok hP hl fun b hb => ?_
  cases b
  · simp (maxSteps := 300000) (disch := omega) only [gs, gs2, gs3, ↓reduceIte, Nat.reduceEqDiff, Nat.mul_one, Nat.add_zero, Nat.zero_add, Nat.zero_mul, Int.toNat_natCast, Int.reduceToNat, Nat.reduceMul, Nat.reduceAdd, decide_true, decide_false, Bool.not_true, Bool.not_false, true_and, and_true, List.map_cons, List.map_nil, List.nil_append, List.cons_append, List.append_nil, Option.map_some, Option.bind_some, List.getElem?_cons_zero, List.getElem?_cons_succ, Bool.false_eq_true, not_true_eq_false, not_false_eq_true, List.contains_cons, List.contains_nil, Nat.reduceBEq, Bool.true_or, Bool.false_or, Bool.or_true, List.set_cons_zero, List.set_cons_succ, List.length_cons, List.length_nil, isLd, Bool.true_and, Bool.false_and, Bool.and_true, Bool.and_false]
    exact ⟨G, s1, hk.err (if_neg (fun x => by simpa using hb.2 x))⟩
  have hn := hb.1 rfl
  have hn1 := hn.1
  have hn4 := hn.2.2.2
  have f0 : rd G1 (some ⟨b1, 0, none⟩) = some (.int .i64 N.n) := hP.f0
  simp (maxSteps := 300000) (disch := omega) only [gs, gs2, gs3, ↓reduceIte, Nat.reduceEqDiff, Nat.mul_one, Nat.add_zero, Nat.zero_add, Nat.zero_mul, Int.toNat_natCast, Int.reduceToNat, Nat.reduceMul, Nat.reduceAdd, decide_true, decide_false, Bool.not_true, Bool.not_false, true_and, and_true, List.map_cons, List.map_nil, List.nil_append, List.cons_append, List.append_nil, Option.map_some, Option.bind_some, List.getElem?_cons_zero, List.getElem?_cons_succ, Bool.false_eq_true, not_true_eq_false, not_false_eq_true, List.contains_cons, List.contains_nil, Nat.reduceBEq, Bool.true_or, Bool.false_or, Bool.or_true, List.set_cons_zero, List.set_cons_succ, List.length_cons, List.length_nil, isLd, Bool.true_and, Bool.false_and, Bool.and_true, Bool.and_false, f0]
  by_cases g1 : N.n = 1
  · simp (maxSteps := 300000) (disch := omega) only [gs, gs2, gs3, ↓reduceIte, Nat.reduceEqDiff, Nat.mul_one, Nat.add_zero, Nat.zero_add, Nat.zero_mul, Int.toNat_natCast, Int.reduceToNat, Nat.reduceMul, Nat.reduceAdd, decide_true, decide_false, Bool.not_true, Bool.not_false, true_and, and_true, List.map_cons, List.map_nil, List.nil_append, List.cons_append, List.append_nil, Option.map_some, Option.bind_some, List.getElem?_cons_zero, List.getElem?_cons_succ, Bool.false_eq_true, not_true_eq_false, not_false_eq_true, List.contains_cons, List.contains_nil, Nat.reduceBEq, Bool.true_or, Bool.false_or, Bool.or_true, List.set_cons_zero, List.set_cons_succ, List.length_cons, List.length_nil, isLd, Bool.true_and, Bool.false_and, Bool.and_true, Bool.and_false, eq_true g1]
    exact ⟨G, s1, hk.err (by unfold lightV; rw [if_pos hn, if_pos g1])⟩
  simp (maxSteps := 300000) (disch := omega) only [gs, gs2, gs3, ↓reduceIte, Nat.reduceEqDiff, Nat.mul_one, Nat.add_zero, Nat.zero_add, Nat.zero_mul, Int.toNat_natCast, Int.reduceToNat, Nat.reduceMul, Nat.reduceAdd, decide_true, decide_false, Bool.not_true, Bool.not_false, true_and, and_true, List.map_cons, List.map_nil, List.nil_append, List.cons_append, List.append_nil, Option.map_some, Option.bind_some, List.getElem?_cons_zero, List.getElem?_cons_succ, Bool.false_eq_true, not_true_eq_false, not_false_eq_true, List.contains_cons, List.contains_nil, Nat.reduceBEq, Bool.true_or, Bool.false_or, Bool.or_true, List.set_cons_zero, List.set_cons_succ, List.length_cons, List.length_nil, isLd, Bool.true_and, Bool.false_and, Bool.and_true, Bool.and_false, eq_false g1, gBs]
  have hV : lightV N = (lbO (ltK N.edges N.n.toNat (2 ^ (N.n.toNat - 1) - 1)), lwO 0 (ltK N.edges N.n.toNat (2 ^ (N.n.toNat - 1) - 1)), 0) := by
    unfold lightV; rw [if_pos hn, if_neg g1, ltV_eq]
  rw [hV] at hk
  clear hV
  obtain ⟨_, hp1, hp2⟩ := pow_half (n := N.n.toNat) (by omega) (by omega)
  have hsh := shl_nat (j := N.n.toNat - 1) (by omega) (y := N.n - 1) (by omega)
  have hbit : ∀ b : Nat, b < 2 ^ (N.n.toNat - 1) → b < 2 ^ 63 := fun b hb => by omega
  generalize 2 ^ (N.n.toNat - 1) = P at *
  refine ⟨by intro v hv; simp at hv, fun b5 hb5 => ?_⟩
  have s5 := Sub.put hb5 ⟨[], true⟩
  refine gLoop_intro (fun m T G' => ∃ (b : Nat) (Ab : Option Addr) (cb : Nat), T 1 = .pointer (some ⟨b1, 0, none⟩) ∧ T 5 = .slice Ab (lbO (ltK N.edges N.n.toNat b)).length cb ∧ T 6 = .int .i64 (lwO (-1) (ltK N.edges N.n.toNat b)) ∧ T 7 = .int .i64 b ∧ m + b = P - 1 ∧ b ≤ P - 1 ∧
    Own G' Ab cb ((lbO (ltK N.edges N.n.toNat b)).map I64) 1 (lbO (ltK N.edges N.n.toNat b)).length ∧ Sub G1 G' ∧ Off G1 Ab)
    (P - 1) ⟨0, _, _, by simp (maxSteps := 300000) (disch := omega) only [gs, gs2, gs3, ↓reduceIte, Nat.reduceEqDiff, Nat.mul_one, Nat.add_zero, Nat.zero_add, Nat.zero_mul, Int.toNat_natCast, Int.reduceToNat, Nat.reduceMul, Nat.reduceAdd, decide_true, decide_false, Bool.not_true, Bool.not_false, true_and, and_true, List.map_cons, List.map_nil, List.nil_append, List.cons_append, List.append_nil, Option.map_some, Option.bind_some, List.getElem?_cons_zero, List.getElem?_cons_succ, Bool.false_eq_true, not_true_eq_false, not_false_eq_true, List.contains_cons, List.contains_nil, Nat.reduceBEq, Bool.true_or, Bool.false_or, Bool.or_true, List.set_cons_zero, List.set_cons_succ, List.length_cons, List.length_nil, isLd, Bool.true_and, Bool.false_and, Bool.and_true, Bool.and_false], by simp (maxSteps := 300000) (disch := omega) only [gs, gs2, gs3, ↓reduceIte, Nat.reduceEqDiff, Nat.mul_one, Nat.add_zero, Nat.zero_add, Nat.zero_mul, Int.toNat_natCast, Int.reduceToNat, Nat.reduceMul, Nat.reduceAdd, decide_true, decide_false, Bool.not_true, Bool.not_false, true_and, and_true, List.map_cons, List.map_nil, List.nil_append, List.cons_append, List.append_nil, Option.map_some, Option.bind_some, List.getElem?_cons_zero, List.getElem?_cons_succ, Bool.false_eq_true, not_true_eq_false, not_false_eq_true, List.contains_cons, List.contains_nil, Nat.reduceBEq, Bool.true_or, Bool.false_or, Bool.or_true, List.set_cons_zero, List.set_cons_succ, List.length_cons, List.length_nil, isLd, Bool.true_and, Bool.false_and, Bool.and_true, Bool.and_false] <;> rfl, by simp (maxSteps := 300000) (disch := omega) only [gs, gs2, gs3, ↓reduceIte, Nat.reduceEqDiff, Nat.mul_one, Nat.add_zero, Nat.zero_add, Nat.zero_mul, Int.toNat_natCast, Int.reduceToNat, Nat.reduceMul, Nat.reduceAdd, decide_true, decide_false, Bool.not_true, Bool.not_false, true_and, and_true, List.map_cons, List.map_nil, List.nil_append, List.cons_append, List.append_nil, Option.map_some, Option.bind_some, List.getElem?_cons_zero, List.getElem?_cons_succ, Bool.false_eq_true, not_true_eq_false, not_false_eq_true, List.contains_cons, List.contains_nil, Nat.reduceBEq, Bool.true_or, Bool.false_or, Bool.or_true, List.set_cons_zero, List.set_cons_succ, List.length_cons, List.length_nil, isLd, Bool.true_and, Bool.false_and, Bool.and_true, Bool.and_false] <;> rfl, by simp (maxSteps := 300000) (disch := omega) only [gs, gs2, gs3, ↓reduceIte, Nat.reduceEqDiff, Nat.mul_one, Nat.add_zero, Nat.zero_add, Nat.zero_mul, Int.toNat_natCast, Int.reduceToNat, Nat.reduceMul, Nat.reduceAdd, decide_true, decide_false, Bool.not_true, Bool.not_false, true_and, and_true, List.map_cons, List.map_nil, List.nil_append, List.cons_append, List.append_nil, Option.map_some, Option.bind_some, List.getElem?_cons_zero, List.getElem?_cons_succ, Bool.false_eq_true, not_true_eq_false, not_false_eq_true, List.contains_cons, List.contains_nil, Nat.reduceBEq, Bool.true_or, Bool.false_or, Bool.or_true, List.set_cons_zero, List.set_cons_succ, List.length_cons, List.length_nil, isLd, Bool.true_and, Bool.false_and, Bool.and_true, Bool.and_false] <;> rfl, by omega, by omega, (New.mk hb5 [] 1 0 rfl).fresh, s5, (New.mk hb5 [] 1 0 rfl).off⟩ ?_
  clear s5
  rintro m T G' ⟨b, Ab, cb, e1, e5, e6, e7, hm, hbm, hO, hS, hOff⟩
  have g0 := rd_sub hS f0
  simp (maxSteps := 300000) (disch := omega) only [gs, gs2, gs3, ↓reduceIte, Nat.reduceEqDiff, Nat.mul_one, Nat.add_zero, Nat.zero_add, Nat.zero_mul, Int.toNat_natCast, Int.reduceToNat, Nat.reduceMul, Nat.reduceAdd, decide_true, decide_false, Bool.not_true, Bool.not_false, true_and, and_true, List.map_cons, List.map_nil, List.nil_append, List.cons_append, List.append_nil, Option.map_some, Option.bind_some, List.getElem?_cons_zero, List.getElem?_cons_succ, Bool.false_eq_true, not_true_eq_false, not_false_eq_true, List.contains_cons, List.contains_nil, Nat.reduceBEq, Bool.true_or, Bool.false_or, Bool.or_true, List.set_cons_zero, List.set_cons_succ, List.length_cons, List.length_nil, isLd, Bool.true_and, Bool.false_and, Bool.and_true, Bool.and_false, e1, e5, e6, e7, g0, hsh]
  by_cases hbb : (b : Int) < (P : Int) - 1
  · simp (maxSteps := 300000) (disch := omega) only [gs, gs2, gs3, ↓reduceIte, Nat.reduceEqDiff, Nat.mul_one, Nat.add_zero, Nat.zero_add, Nat.zero_mul, Int.toNat_natCast, Int.reduceToNat, Nat.reduceMul, Nat.reduceAdd, decide_true, decide_false, Bool.not_true, Bool.not_false, true_and, and_true, List.map_cons, List.map_nil, List.nil_append, List.cons_append, List.append_nil, Option.map_some, Option.bind_some, List.getElem?_cons_zero, List.getElem?_cons_succ, Bool.false_eq_true, not_true_eq_false, not_false_eq_true, List.contains_cons, List.contains_nil, Nat.reduceBEq, Bool.true_or, Bool.false_or, Bool.or_true, List.set_cons_zero, List.set_cons_succ, List.length_cons, List.length_nil, isLd, Bool.true_and, Bool.false_and, Bool.and_true, Bool.and_false, e1, e5, e6, e7, hbb, gBs]
    refine ⟨by intro v hv; simp at hv; subst hv; rfl, fun b8 hb8 => ?_⟩
    have hN0 : New G' (put G' b8 ⟨[.int .i64 0], true⟩) (some ⟨b8, 0, none⟩) 1 ((bitsL (2 * b + 1) 1).map I64) 1 (bitsL (2 * b + 1) 1).length := by rw [bitsL_one]; exact New.mk hb8 [.int .i64 0] 1 1 rfl
    have hb63 := hbit b (by omega)
    refine gLoop_intro (fun m' T G'' => ∃ (v : Nat) (Al : Option Addr) (cl : Nat), T 1 = .pointer (some ⟨b1, 0, none⟩) ∧ T 5 = .slice Ab (lbO (ltK N.edges N.n.toNat b)).length cb ∧ T 6 = .int .i64 (lwO (-1) (ltK N.edges N.n.toNat b)) ∧ T 7 = .int .i64 b ∧ T 8 = .slice Al (bitsL (2 * b + 1) v).length cl ∧ T 9 = .int .i64 v ∧ m' + v = N.n.toNat ∧ 1 ≤ v ∧ v ≤ N.n.toNat ∧
      New G' G'' Al cl ((bitsL (2 * b + 1) v).map I64) 1 (bitsL (2 * b + 1) v).length)
      (N.n.toNat - 1) ⟨1, _, _, by simp (maxSteps := 300000) (disch := omega) only [gs, gs2, gs3, ↓reduceIte, Nat.reduceEqDiff, Nat.mul_one, Nat.add_zero, Nat.zero_add, Nat.zero_mul, Int.toNat_natCast, Int.reduceToNat, Nat.reduceMul, Nat.reduceAdd, decide_true, decide_false, Bool.not_true, Bool.not_false, true_and, and_true, List.map_cons, List.map_nil, List.nil_append, List.cons_append, List.append_nil, Option.map_some, Option.bind_some, List.getElem?_cons_zero, List.getElem?_cons_succ, Bool.false_eq_true, not_true_eq_false, not_false_eq_true, List.contains_cons, List.contains_nil, Nat.reduceBEq, Bool.true_or, Bool.false_or, Bool.or_true, List.set_cons_zero, List.set_cons_succ, List.length_cons, List.length_nil, isLd, Bool.true_and, Bool.false_and, Bool.and_true, Bool.and_false, e1], by simp (maxSteps := 300000) (disch := omega) only [gs, gs2, gs3, ↓reduceIte, Nat.reduceEqDiff, Nat.mul_one, Nat.add_zero, Nat.zero_add, Nat.zero_mul, Int.toNat_natCast, Int.reduceToNat, Nat.reduceMul, Nat.reduceAdd, decide_true, decide_false, Bool.not_true, Bool.not_false, true_and, and_true, List.map_cons, List.map_nil, List.nil_append, List.cons_append, List.append_nil, Option.map_some, Option.bind_some, List.getElem?_cons_zero, List.getElem?_cons_succ, Bool.false_eq_true, not_true_eq_false, not_false_eq_true, List.contains_cons, List.contains_nil, Nat.reduceBEq, Bool.true_or, Bool.false_or, Bool.or_true, List.set_cons_zero, List.set_cons_succ, List.length_cons, List.length_nil, isLd, Bool.true_and, Bool.false_and, Bool.and_true, Bool.and_false, e5], by simp (maxSteps := 300000) (disch := omega) only [gs, gs2, gs3, ↓reduceIte, Nat.reduceEqDiff, Nat.mul_one, Nat.add_zero, Nat.zero_add, Nat.zero_mul, Int.toNat_natCast, Int.reduceToNat, Nat.reduceMul, Nat.reduceAdd, decide_true, decide_false, Bool.not_true, Bool.not_false, true_and, and_true, List.map_cons, List.map_nil, List.nil_append, List.cons_append, List.append_nil, Option.map_some, Option.bind_some, List.getElem?_cons_zero, List.getElem?_cons_succ, Bool.false_eq_true, not_true_eq_false, not_false_eq_true, List.contains_cons, List.contains_nil, Nat.reduceBEq, Bool.true_or, Bool.false_or, Bool.or_true, List.set_cons_zero, List.set_cons_succ, List.length_cons, List.length_nil, isLd, Bool.true_and, Bool.false_and, Bool.and_true, Bool.and_false, e6], by simp (maxSteps := 300000) (disch := omega) only [gs, gs2, gs3, ↓reduceIte, Nat.reduceEqDiff, Nat.mul_one, Nat.add_zero, Nat.zero_add, Nat.zero_mul, Int.toNat_natCast, Int.reduceToNat, Nat.reduceMul, Nat.reduceAdd, decide_true, decide_false, Bool.not_true, Bool.not_false, true_and, and_true, List.map_cons, List.map_nil, List.nil_append, List.cons_append, List.append_nil, Option.map_some, Option.bind_some, List.getElem?_cons_zero, List.getElem?_cons_succ, Bool.false_eq_true, not_true_eq_false, not_false_eq_true, List.contains_cons, List.contains_nil, Nat.reduceBEq, Bool.true_or, Bool.false_or, Bool.or_true, List.set_cons_zero, List.set_cons_succ, List.length_cons, List.length_nil, isLd, Bool.true_and, Bool.false_and, Bool.and_true, Bool.and_false, e7], by simp (maxSteps := 300000) (disch := omega) only [gs, gs2, gs3, ↓reduceIte, Nat.reduceEqDiff, Nat.mul_one, Nat.add_zero, Nat.zero_add, Nat.zero_mul, Int.toNat_natCast, Int.reduceToNat, Nat.reduceMul, Nat.reduceAdd, decide_true, decide_false, Bool.not_true, Bool.not_false, true_and, and_true, List.map_cons, List.map_nil, List.nil_append, List.cons_append, List.append_nil, Option.map_some, Option.bind_some, List.getElem?_cons_zero, List.getElem?_cons_succ, Bool.false_eq_true, not_true_eq_false, not_false_eq_true, List.contains_cons, List.contains_nil, Nat.reduceBEq, Bool.true_or, Bool.false_or, Bool.or_true, List.set_cons_zero, List.set_cons_succ, List.length_cons, List.length_nil, isLd, Bool.true_and, Bool.false_and, Bool.and_true, Bool.and_false, bitsL_one] <;> rfl, by simp (maxSteps := 300000) (disch := omega) only [gs, gs2, gs3, ↓reduceIte, Nat.reduceEqDiff, Nat.mul_one, Nat.add_zero, Nat.zero_add, Nat.zero_mul, Int.toNat_natCast, Int.reduceToNat, Nat.reduceMul, Nat.reduceAdd, decide_true, decide_false, Bool.not_true, Bool.not_false, true_and, and_true, List.map_cons, List.map_nil, List.nil_append, List.cons_append, List.append_nil, Option.map_some, Option.bind_some, List.getElem?_cons_zero, List.getElem?_cons_succ, Bool.false_eq_true, not_true_eq_false, not_false_eq_true, List.contains_cons, List.contains_nil, Nat.reduceBEq, Bool.true_or, Bool.false_or, Bool.or_true, List.set_cons_zero, List.set_cons_succ, List.length_cons, List.length_nil, isLd, Bool.true_and, Bool.false_and, Bool.and_true, Bool.and_false] <;> rfl, by omega, by omega, by omega, hN0⟩ ?_
    clear e1 e5 e6 e7 hN0
    rintro m' T G'' ⟨v, Al, cl, e1, e5, e6, e7, e8, e9, hm', hv1, hvm, hN⟩
    have g0 := rd_sub hN.sub g0
    have hlen := bitsL_len (2 * b + 1) v
    simp (maxSteps := 300000) (disch := omega) only [gs, gs2, gs3, ↓reduceIte, Nat.reduceEqDiff, Nat.mul_one, Nat.add_zero, Nat.zero_add, Nat.zero_mul, Int.toNat_natCast, Int.reduceToNat, Nat.reduceMul, Nat.reduceAdd, decide_true, decide_false, Bool.not_true, Bool.not_false, true_and, and_true, List.map_cons, List.map_nil, List.nil_append, List.cons_append, List.append_nil, Option.map_some, Option.bind_some, List.getElem?_cons_zero, List.getElem?_cons_succ, Bool.false_eq_true, not_true_eq_false, not_false_eq_true, List.contains_cons, List.contains_nil, Nat.reduceBEq, Bool.true_or, Bool.false_or, Bool.or_true, List.set_cons_zero, List.set_cons_succ, List.length_cons, List.length_nil, isLd, Bool.true_and, Bool.false_and, Bool.and_true, Bool.and_false, e1, e5, e6, e7, e8, e9, g0]
    by_cases hvv : (v : Int) < N.n
    · have hsv := shl_nat (j := v - 1) (by omega) (y := (v : Int) - 1) (by omega)
      have hav := and_bit hb63 (j := v - 1) (by omega)
      have hp := Nat.pow_pos (n := v - 1) (show 0 < 2 by omega)
      have hsu := bitsL_succ (2 * b + 1) v
      have ho := bits_odd b (v - 1)
      rw [show v - 1 + 1 = v by omega] at ho
      rw [ho] at hsu
      generalize 2 ^ (v - 1) = p at *
      by_cases ht : b.testBit (v - 1) = true
      · rw [if_pos ht] at hav hsu
        simp (maxSteps := 300000) (disch := omega) only [gs, gs2, gs3, ↓reduceIte, Nat.reduceEqDiff, Nat.mul_one, Nat.add_zero, Nat.zero_add, Nat.zero_mul, Int.toNat_natCast, Int.reduceToNat, Nat.reduceMul, Nat.reduceAdd, decide_true, decide_false, Bool.not_true, Bool.not_false, true_and, and_true, List.map_cons, List.map_nil, List.nil_append, List.cons_append, List.append_nil, Option.map_some, Option.bind_some, List.getElem?_cons_zero, List.getElem?_cons_succ, Bool.false_eq_true, not_true_eq_false, not_false_eq_true, List.contains_cons, List.contains_nil, Nat.reduceBEq, Bool.true_or, Bool.false_or, Bool.or_true, List.set_cons_zero, List.set_cons_succ, List.length_cons, List.length_nil, isLd, Bool.true_and, Bool.false_and, Bool.and_true, Bool.and_false, e1, e5, e6, e7, e8, e9, g0, hvv, hsv, hav, show ((p : Int) = 0) = False from eq_false (by omega), gBs]
        refine ⟨by intro v hv; simp at hv; subst hv; rfl, fun b9 hb9 => ?_⟩
        refine ap_new hN (Sub.put hb9 _) (cells_one [.int .i64 (v : Int)] true) (by rfl) (by intro v hv; simp at hv; subst hv; rfl) rfl (by omega) (by omega) (by omega) fun G3 A' c' hN' => ?_
        simp (maxSteps := 300000) (disch := omega) only [gs, gs2, gs3, ↓reduceIte, Nat.reduceEqDiff, Nat.mul_one, Nat.add_zero, Nat.zero_add, Nat.zero_mul, Int.toNat_natCast, Int.reduceToNat, Nat.reduceMul, Nat.reduceAdd, decide_true, decide_false, Bool.not_true, Bool.not_false, true_and, and_true, List.map_cons, List.map_nil, List.nil_append, List.cons_append, List.append_nil, Option.map_some, Option.bind_some, List.getElem?_cons_zero, List.getElem?_cons_succ, Bool.false_eq_true, not_true_eq_false, not_false_eq_true, List.contains_cons, List.contains_nil, Nat.reduceBEq, Bool.true_or, Bool.false_or, Bool.or_true, List.set_cons_zero, List.set_cons_succ, List.length_cons, List.length_nil, isLd, Bool.true_and, Bool.false_and, Bool.and_true, Bool.and_false, e1, e5, e6, e7, e8, e9]
        exact ⟨m' - 1, by omega, _, Sub.refl _, v + 1, A', c', by rw [hsu]; simp, rfl, by omega, by omega, by omega, by rw [hsu]; exact hN'.cast (by simp [I64]) (by simp)⟩
      · rw [if_neg ht] at hav hsu
        simp (maxSteps := 300000) (disch := omega) only [gs, gs2, gs3, ↓reduceIte, Nat.reduceEqDiff, Nat.mul_one, Nat.add_zero, Nat.zero_add, Nat.zero_mul, Int.toNat_natCast, Int.reduceToNat, Nat.reduceMul, Nat.reduceAdd, decide_true, decide_false, Bool.not_true, Bool.not_false, true_and, and_true, List.map_cons, List.map_nil, List.nil_append, List.cons_append, List.append_nil, Option.map_some, Option.bind_some, List.getElem?_cons_zero, List.getElem?_cons_succ, Bool.false_eq_true, not_true_eq_false, not_false_eq_true, List.contains_cons, List.contains_nil, Nat.reduceBEq, Bool.true_or, Bool.false_or, Bool.or_true, List.set_cons_zero, List.set_cons_succ, List.length_cons, List.length_nil, isLd, Bool.true_and, Bool.false_and, Bool.and_true, Bool.and_false, e1, e5, e6, e7, e8, e9, g0, hvv, hsv, hav, eq_true (show (0 : Int) = 0 from rfl)]
        exact ⟨m' - 1, by omega, _, Sub.refl _, v + 1, Al, cl, by rw [hsu], rfl, by omega, by omega, by omega, by rw [hsu]; exact hN⟩
    · simp (maxSteps := 300000) (disch := omega) only [gs, gs2, gs3, ↓reduceIte, Nat.reduceEqDiff, Nat.mul_one, Nat.add_zero, Nat.zero_add, Nat.zero_mul, Int.toNat_natCast, Int.reduceToNat, Nat.reduceMul, Nat.reduceAdd, decide_true, decide_false, Bool.not_true, Bool.not_false, true_and, and_true, List.map_cons, List.map_nil, List.nil_append, List.cons_append, List.append_nil, Option.map_some, Option.bind_some, List.getElem?_cons_zero, List.getElem?_cons_succ, Bool.false_eq_true, not_true_eq_false, not_false_eq_true, List.contains_cons, List.contains_nil, Nat.reduceBEq, Bool.true_or, Bool.false_or, Bool.or_true, List.set_cons_zero, List.set_cons_succ, List.length_cons, List.length_nil, isLd, Bool.true_and, Bool.false_and, Bool.and_true, Bool.and_false, e1, e5, e6, e7, e8, e9, g0, hvv]
      obtain rfl : v = N.n.toNat := by omega
      have hS2 := hS.trans hN.sub
      refine spec_l16Cut_ok (hP.sub hS2) hN.ints hn (by omega) ?_
      have cwb := cw_bd hn (bitsL (2 * b + 1) N.n.toNat) _ (Nat.le_refl _)
      have hyes := ltK_yes (es := N.edges) (n := N.n.toNat) (b := b)
      have hno := fun p => ltK_no (es := N.edges) (n := N.n.toNat) (b := b) (p := p)
      generalize hw : cwK N.edges (bitsL (2 * b + 1) N.n.toNat) N.edges.length = w at *
      generalize hL : bitsL (2 * b + 1) N.n.toNat = L at *
      cases hlt : ltK N.edges N.n.toNat b with
      | none =>
        have hy := hyes (.inl hlt)
        rw [hlt] at e5 e6
        change T 6 = .int .i64 (-1) at e6
        simp (maxSteps := 300000) (disch := omega) only [gs, gs2, gs3, ↓reduceIte, Nat.reduceEqDiff, Nat.mul_one, Nat.add_zero, Nat.zero_add, Nat.zero_mul, Int.toNat_natCast, Int.reduceToNat, Nat.reduceMul, Nat.reduceAdd, decide_true, decide_false, Bool.not_true, Bool.not_false, true_and, and_true, List.map_cons, List.map_nil, List.nil_append, List.cons_append, List.append_nil, Option.map_some, Option.bind_some, List.getElem?_cons_zero, List.getElem?_cons_succ, Bool.false_eq_true, not_true_eq_false, not_false_eq_true, List.contains_cons, List.contains_nil, Nat.reduceBEq, Bool.true_or, Bool.false_or, Bool.or_true, List.set_cons_zero, List.set_cons_succ, List.length_cons, List.length_nil, isLd, Bool.true_and, Bool.false_and, Bool.and_true, Bool.and_false, e1, e5, e6, e7, e8, e9, show ((-1 : Int) < 0) = True from eq_true (by omega)]
        exact ⟨m - 1, by omega, _, Sub.refl _, b + 1, Al, cl, by rw [hy] <;> rfl, by rw [hy] <;> rfl, rfl, by omega, by omega, by rw [hy]; exact hN.fresh, hS2, hN.off.mono hS⟩
      | some p =>
        obtain ⟨B, mm⟩ := p
        obtain ⟨m0, m1, cc, hcc, hB⟩ := ltK_bd hn hlt
        rw [hlt] at e5 e6 hO
        simp only [lwO, lbO] at e5 e6 hO m0 m1 hB
        have hBl : B.length ≤ N.n.toNat := by rw [hB]; exact bitsL_len _ _
        have hkeep : ltK N.edges N.n.toNat (b + 1) = some (B, mm) → _ := fun (hy : ltK N.edges N.n.toNat (b + 1) = some (B, mm)) => (⟨by rw [hy]; rfl, by rw [hy]; rfl⟩ : lbO (ltK N.edges N.n.toNat (b + 1)) = B ∧ lwO (-1) (ltK N.edges N.n.toNat (b + 1)) = mm)
        have htake : ltK N.edges N.n.toNat (b + 1) = some (L, w) → lbO (ltK N.edges N.n.toNat (b + 1)) = L ∧ lwO (-1) (ltK N.edges N.n.toNat (b + 1)) = w := fun hy => ⟨by rw [hy]; rfl, by rw [hy]; rfl⟩
        simp (maxSteps := 300000) (disch := omega) only [gs, gs2, gs3, ↓reduceIte, Nat.reduceEqDiff, Nat.mul_one, Nat.add_zero, Nat.zero_add, Nat.zero_mul, Int.toNat_natCast, Int.reduceToNat, Nat.reduceMul, Nat.reduceAdd, decide_true, decide_false, Bool.not_true, Bool.not_false, true_and, and_true, List.map_cons, List.map_nil, List.nil_append, List.cons_append, List.append_nil, Option.map_some, Option.bind_some, List.getElem?_cons_zero, List.getElem?_cons_succ, Bool.false_eq_true, not_true_eq_false, not_false_eq_true, List.contains_cons, List.contains_nil, Nat.reduceBEq, Bool.true_or, Bool.false_or, Bool.or_true, List.set_cons_zero, List.set_cons_succ, List.length_cons, List.length_nil, isLd, Bool.true_and, Bool.false_and, Bool.and_true, Bool.and_false, e1, e5, e6, e7, e8, e9, show (mm < 0) = False from eq_false (by omega)]
        by_cases hc1 : w < mm
        · obtain ⟨q1, q2⟩ := htake (hyes (.inr ⟨_, hlt, .inl hc1⟩))
          simp (maxSteps := 300000) (disch := omega) only [gs, gs2, gs3, ↓reduceIte, Nat.reduceEqDiff, Nat.mul_one, Nat.add_zero, Nat.zero_add, Nat.zero_mul, Int.toNat_natCast, Int.reduceToNat, Nat.reduceMul, Nat.reduceAdd, decide_true, decide_false, Bool.not_true, Bool.not_false, true_and, and_true, List.map_cons, List.map_nil, List.nil_append, List.cons_append, List.append_nil, Option.map_some, Option.bind_some, List.getElem?_cons_zero, List.getElem?_cons_succ, Bool.false_eq_true, not_true_eq_false, not_false_eq_true, List.contains_cons, List.contains_nil, Nat.reduceBEq, Bool.true_or, Bool.false_or, Bool.or_true, List.set_cons_zero, List.set_cons_succ, List.length_cons, List.length_nil, isLd, Bool.true_and, Bool.false_and, Bool.and_true, Bool.and_false, e1, e5, e6, e7, e8, e9, hc1]
          exact ⟨m - 1, by omega, _, Sub.refl _, b + 1, Al, cl, by rw [q1], by rw [q2], rfl, by omega, by omega, by rw [q1]; exact hN.fresh, hS2, hN.off.mono hS⟩
        · simp (maxSteps := 300000) (disch := omega) only [gs, gs2, gs3, ↓reduceIte, Nat.reduceEqDiff, Nat.mul_one, Nat.add_zero, Nat.zero_add, Nat.zero_mul, Int.toNat_natCast, Int.reduceToNat, Nat.reduceMul, Nat.reduceAdd, decide_true, decide_false, Bool.not_true, Bool.not_false, true_and, and_true, List.map_cons, List.map_nil, List.nil_append, List.cons_append, List.append_nil, Option.map_some, Option.bind_some, List.getElem?_cons_zero, List.getElem?_cons_succ, Bool.false_eq_true, not_true_eq_false, not_false_eq_true, List.contains_cons, List.contains_nil, Nat.reduceBEq, Bool.true_or, Bool.false_or, Bool.or_true, List.set_cons_zero, List.set_cons_succ, List.length_cons, List.length_nil, isLd, Bool.true_and, Bool.false_and, Bool.and_true, Bool.and_false, e1, e5, e6, e7, e8, e9, hc1]
          by_cases hc2 : w = mm
          · simp (maxSteps := 300000) (disch := omega) only [gs, gs2, gs3, ↓reduceIte, Nat.reduceEqDiff, Nat.mul_one, Nat.add_zero, Nat.zero_add, Nat.zero_mul, Int.toNat_natCast, Int.reduceToNat, Nat.reduceMul, Nat.reduceAdd, decide_true, decide_false, Bool.not_true, Bool.not_false, true_and, and_true, List.map_cons, List.map_nil, List.nil_append, List.cons_append, List.append_nil, Option.map_some, Option.bind_some, List.getElem?_cons_zero, List.getElem?_cons_succ, Bool.false_eq_true, not_true_eq_false, not_false_eq_true, List.contains_cons, List.contains_nil, Nat.reduceBEq, Bool.true_or, Bool.false_or, Bool.or_true, List.set_cons_zero, List.set_cons_succ, List.length_cons, List.length_nil, isLd, Bool.true_and, Bool.false_and, Bool.and_true, Bool.and_false, eq_true hc2, e1, e5, e6, e7, e8, e9]
            refine spec_l16Before_ok hN.ints (hO.sub hN.sub).ints (by omega) (by omega) fun bb hbb' => ?_
            cases bb
            · have hnn : ¬ (w < mm ∨ w = mm ∧ lexC L B < 0) := fun y => by
                rcases y with y | y
                · omega
                · have := hbb'.2 y.2; simp at this
              obtain ⟨q1, q2⟩ := hkeep (hno _ hlt hnn)
              simp (maxSteps := 300000) (disch := omega) only [gs, gs2, gs3, ↓reduceIte, Nat.reduceEqDiff, Nat.mul_one, Nat.add_zero, Nat.zero_add, Nat.zero_mul, Int.toNat_natCast, Int.reduceToNat, Nat.reduceMul, Nat.reduceAdd, decide_true, decide_false, Bool.not_true, Bool.not_false, true_and, and_true, List.map_cons, List.map_nil, List.nil_append, List.cons_append, List.append_nil, Option.map_some, Option.bind_some, List.getElem?_cons_zero, List.getElem?_cons_succ, Bool.false_eq_true, not_true_eq_false, not_false_eq_true, List.contains_cons, List.contains_nil, Nat.reduceBEq, Bool.true_or, Bool.false_or, Bool.or_true, List.set_cons_zero, List.set_cons_succ, List.length_cons, List.length_nil, isLd, Bool.true_and, Bool.false_and, Bool.and_true, Bool.and_false, e1, e5, e6, e7, e8, e9]
              exact ⟨m - 1, by omega, _, Sub.refl _, b + 1, Ab, cb, by rw [q1], by rw [q2], rfl, by omega, by omega, by rw [q1]; exact hO.sub hN.sub, hS2, hOff⟩
            · obtain ⟨q1, q2⟩ := htake (hyes (.inr ⟨_, hlt, .inr ⟨hc2, hbb'.1 rfl⟩⟩))
              simp (maxSteps := 300000) (disch := omega) only [gs, gs2, gs3, ↓reduceIte, Nat.reduceEqDiff, Nat.mul_one, Nat.add_zero, Nat.zero_add, Nat.zero_mul, Int.toNat_natCast, Int.reduceToNat, Nat.reduceMul, Nat.reduceAdd, decide_true, decide_false, Bool.not_true, Bool.not_false, true_and, and_true, List.map_cons, List.map_nil, List.nil_append, List.cons_append, List.append_nil, Option.map_some, Option.bind_some, List.getElem?_cons_zero, List.getElem?_cons_succ, Bool.false_eq_true, not_true_eq_false, not_false_eq_true, List.contains_cons, List.contains_nil, Nat.reduceBEq, Bool.true_or, Bool.false_or, Bool.or_true, List.set_cons_zero, List.set_cons_succ, List.length_cons, List.length_nil, isLd, Bool.true_and, Bool.false_and, Bool.and_true, Bool.and_false, e1, e5, e6, e7, e8, e9]
              exact ⟨m - 1, by omega, _, Sub.refl _, b + 1, Al, cl, by rw [q1], by rw [q2], rfl, by omega, by omega, by rw [q1]; exact hN.fresh, hS2, hN.off.mono hS⟩
          · rw [decide_eq_false hc2]
            have hnn : ¬ (w < mm ∨ w = mm ∧ lexC L B < 0) := fun y => by
              rcases y with y | y
              · omega
              · exact hc2 y.1
            obtain ⟨q1, q2⟩ := hkeep (hno _ hlt hnn)
            simp (maxSteps := 300000) (disch := omega) only [gs, gs2, gs3, ↓reduceIte, Nat.reduceEqDiff, Nat.mul_one, Nat.add_zero, Nat.zero_add, Nat.zero_mul, Int.toNat_natCast, Int.reduceToNat, Nat.reduceMul, Nat.reduceAdd, decide_true, decide_false, Bool.not_true, Bool.not_false, true_and, and_true, List.map_cons, List.map_nil, List.nil_append, List.cons_append, List.append_nil, Option.map_some, Option.bind_some, List.getElem?_cons_zero, List.getElem?_cons_succ, Bool.false_eq_true, not_true_eq_false, not_false_eq_true, List.contains_cons, List.contains_nil, Nat.reduceBEq, Bool.true_or, Bool.false_or, Bool.or_true, List.set_cons_zero, List.set_cons_succ, List.length_cons, List.length_nil, isLd, Bool.true_and, Bool.false_and, Bool.and_true, Bool.and_false, e1, e5, e6, e7, e8, e9]
            exact ⟨m - 1, by omega, _, Sub.refl _, b + 1, Ab, cb, by rw [q1], by rw [q2], rfl, by omega, by omega, by rw [q1]; exact hO.sub hN.sub, hS2, hOff⟩
  · simp (maxSteps := 300000) (disch := omega) only [gs, gs2, gs3, ↓reduceIte, Nat.reduceEqDiff, Nat.mul_one, Nat.add_zero, Nat.zero_add, Nat.zero_mul, Int.toNat_natCast, Int.reduceToNat, Nat.reduceMul, Nat.reduceAdd, decide_true, decide_false, Bool.not_true, Bool.not_false, true_and, and_true, List.map_cons, List.map_nil, List.nil_append, List.cons_append, List.append_nil, Option.map_some, Option.bind_some, List.getElem?_cons_zero, List.getElem?_cons_succ, Bool.false_eq_true, not_true_eq_false, not_false_eq_true, List.contains_cons, List.contains_nil, Nat.reduceBEq, Bool.true_or, Bool.false_or, Bool.or_true, List.set_cons_zero, List.set_cons_succ, List.length_cons, List.length_nil, isLd, Bool.true_and, Bool.false_and, Bool.and_true, Bool.and_false, e1, e5, e6, e7, hbb]
    obtain rfl : b = P - 1 := by omega
    have hlw : lwO (-1) (ltK N.edges N.n.toNat (P - 1)) = lwO 0 (ltK N.edges N.n.toNat (P - 1)) := by
      obtain ⟨c', _, e, _⟩ := ltK_some N.edges N.n.toNat (P - 1) (by omega)
      rw [e]; rfl
    rw [hlw]
    obtain ⟨G3, s3, hN⟩ := hO.new (s1.trans hS) (hOff.mono s1)
    exact ⟨G3, s3, hk _ _ _ hN⟩
theorem impl_LightestCut_ok {G : GH} {N : Gra} {A : Option Addr} {c : Nat} (h : T3S G A c N.edges) (hl : N.edges.length < 2 ^ 40) {K : Value → GH → Prop}
    (hk : LII (lightV N) K G) : GC Try.prog 55 [graV N A c] G K := by
  refine GC_drop (c_impl_LightestCut_i (by simp) ?_)
  unfold graV graC
  simp (maxSteps := 300000) (disch := omega) only [gs, gs2, gs3, ↓reduceIte, Nat.reduceEqDiff, Nat.mul_one, Nat.add_zero, Nat.zero_add, Nat.zero_mul, Int.toNat_natCast, Int.reduceToNat, Nat.reduceMul, Nat.reduceAdd, decide_true, decide_false, Bool.not_true, Bool.not_false, true_and, and_true, List.map_cons, List.map_nil, List.nil_append, List.cons_append, List.append_nil, Option.map_some, Option.bind_some, List.getElem?_cons_zero, List.getElem?_cons_succ, Bool.false_eq_true, not_true_eq_false, not_false_eq_true, List.contains_cons, List.contains_nil, Nat.reduceBEq, Bool.true_or, Bool.false_or, Bool.or_true, List.set_cons_zero, List.set_cons_succ, List.length_cons, List.length_nil, isLd, Bool.true_and, Bool.false_and, Bool.and_true, Bool.and_false]
  intro b1 hb1
  have s1 := Sub.put hb1 ⟨[.int .i64 N.n, .slice A N.edges.length c], true⟩
  have f0 : rd (put G b1 ⟨[.int .i64 N.n, .slice A N.edges.length c], true⟩) (some ⟨b1, 0, none⟩) = some (.int .i64 N.n) := rd_box _ _ _ 0 _ rfl
  have f1 : rd (put G b1 ⟨[.int .i64 N.n, .slice A N.edges.length c], true⟩) (some ⟨b1, 1, none⟩) = some (.slice A N.edges.length c) := rd_box _ _ _ 1 _ rfl
  revert s1 f0 f1
  generalize put G b1 ⟨[.int .i64 N.n, .slice A N.edges.length c], true⟩ = G1
  intro s1 f0 f1
  simp (maxSteps := 300000) (disch := omega) only [gs, gs2, gs3, ↓reduceIte, Nat.reduceEqDiff, Nat.mul_one, Nat.add_zero, Nat.zero_add, Nat.zero_mul, Int.toNat_natCast, Int.reduceToNat, Nat.reduceMul, Nat.reduceAdd, decide_true, decide_false, Bool.not_true, Bool.not_false, true_and, and_true, List.map_cons, List.map_nil, List.nil_append, List.cons_append, List.append_nil, Option.map_some, Option.bind_some, List.getElem?_cons_zero, List.getElem?_cons_succ, Bool.false_eq_true, not_true_eq_false, not_false_eq_true, List.contains_cons, List.contains_nil, Nat.reduceBEq, Bool.true_or, Bool.false_or, Bool.or_true, List.set_cons_zero, List.set_cons_succ, List.length_cons, List.length_nil, isLd, Bool.true_and, Bool.false_and, Bool.and_true, Bool.and_false, f0, f1]
  refine impl_ValidGraph_ok (N := N) (h.sub s1) hl fun b hb => ?_
  cases b
  · simp (maxSteps := 300000) (disch := omega) only [gs, gs2, gs3, ↓reduceIte, Nat.reduceEqDiff, Nat.mul_one, Nat.add_zero, Nat.zero_add, Nat.zero_mul, Int.toNat_natCast, Int.reduceToNat, Nat.reduceMul, Nat.reduceAdd, decide_true, decide_false, Bool.not_true, Bool.not_false, true_and, and_true, List.map_cons, List.map_nil, List.nil_append, List.cons_append, List.append_nil, Option.map_some, Option.bind_some, List.getElem?_cons_zero, List.getElem?_cons_succ, Bool.false_eq_true, not_true_eq_false, not_false_eq_true, List.contains_cons, List.contains_nil, Nat.reduceBEq, Bool.true_or, Bool.false_or, Bool.or_true, List.set_cons_zero, List.set_cons_succ, List.length_cons, List.length_nil, isLd, Bool.true_and, Bool.false_and, Bool.and_true, Bool.and_false]
    exact ⟨G, s1, hk.err (if_neg (fun x => by simpa using hb.2 x))⟩
  have hn := hb.1 rfl
  have hn1 := hn.1
  have hn4 := hn.2.2.2
  simp (maxSteps := 300000) (disch := omega) only [gs, gs2, gs3, ↓reduceIte, Nat.reduceEqDiff, Nat.mul_one, Nat.add_zero, Nat.zero_add, Nat.zero_mul, Int.toNat_natCast, Int.reduceToNat, Nat.reduceMul, Nat.reduceAdd, decide_true, decide_false, Bool.not_true, Bool.not_false, true_and, and_true, List.map_cons, List.map_nil, List.nil_append, List.cons_append, List.append_nil, Option.map_some, Option.bind_some, List.getElem?_cons_zero, List.getElem?_cons_succ, Bool.false_eq_true, not_true_eq_false, not_false_eq_true, List.contains_cons, List.contains_nil, Nat.reduceBEq, Bool.true_or, Bool.false_or, Bool.or_true, List.set_cons_zero, List.set_cons_succ, List.length_cons, List.length_nil, isLd, Bool.true_and, Bool.false_and, Bool.and_true, Bool.and_false, f0]
  by_cases g1 : N.n = 1
  · simp (maxSteps := 300000) (disch := omega) only [gs, gs2, gs3, ↓reduceIte, Nat.reduceEqDiff, Nat.mul_one, Nat.add_zero, Nat.zero_add, Nat.zero_mul, Int.toNat_natCast, Int.reduceToNat, Nat.reduceMul, Nat.reduceAdd, decide_true, decide_false, Bool.not_true, Bool.not_false, true_and, and_true, List.map_cons, List.map_nil, List.nil_append, List.cons_append, List.append_nil, Option.map_some, Option.bind_some, List.getElem?_cons_zero, List.getElem?_cons_succ, Bool.false_eq_true, not_true_eq_false, not_false_eq_true, List.contains_cons, List.contains_nil, Nat.reduceBEq, Bool.true_or, Bool.false_or, Bool.or_true, List.set_cons_zero, List.set_cons_succ, List.length_cons, List.length_nil, isLd, Bool.true_and, Bool.false_and, Bool.and_true, Bool.and_false, eq_true g1]
    exact ⟨G, s1, hk.err (by unfold lightV; rw [if_pos hn, if_pos g1])⟩
  simp (maxSteps := 300000) (disch := omega) only [gs, gs2, gs3, ↓reduceIte, Nat.reduceEqDiff, Nat.mul_one, Nat.add_zero, Nat.zero_add, Nat.zero_mul, Int.toNat_natCast, Int.reduceToNat, Nat.reduceMul, Nat.reduceAdd, decide_true, decide_false, Bool.not_true, Bool.not_false, true_and, and_true, List.map_cons, List.map_nil, List.nil_append, List.cons_append, List.append_nil, Option.map_some, Option.bind_some, List.getElem?_cons_zero, List.getElem?_cons_succ, Bool.false_eq_true, not_true_eq_false, not_false_eq_true, List.contains_cons, List.contains_nil, Nat.reduceBEq, Bool.true_or, Bool.false_or, Bool.or_true, List.set_cons_zero, List.set_cons_succ, List.length_cons, List.length_nil, isLd, Bool.true_and, Bool.false_and, Bool.and_true, Bool.and_false, eq_false g1]
  have hV : lightV N = (lbO (ltK N.edges N.n.toNat (2 ^ (N.n.toNat - 1) - 1)), lwO 0 (ltK N.edges N.n.toNat (2 ^ (N.n.toNat - 1) - 1)), 0) := by
    unfold lightV; rw [if_pos hn, if_neg g1, ltV_eq]
  rw [hV] at hk
  clear hV
  obtain ⟨hp0, hp1, hp2⟩ := pow_half (n := N.n.toNat) (by omega) (by omega)
  have hsh := shl_nat (j := N.n.toNat) (by omega) (y := N.n) (by omega)
  have hmem : ∀ s : Nat, s < 2 ^ N.n.toNat → s < 2 ^ 12 ∧ bitsL s 12 = bitsL s N.n.toNat := fun s hs => ⟨by omega, bitsL_12 hs (by omega)⟩
  rw [hp0] at hsh hmem
  generalize 2 ^ (N.n.toNat - 1) = P at *
  refine gLoop_intro (fun m T G' => ∃ (b : Nat) (Ab : Option Addr) (cb : Nat), T 1 = .pointer (some ⟨b1, 0, none⟩) ∧ T 5 = .slice Ab (lbO (ltK N.edges N.n.toNat b)).length cb ∧ T 6 = .int .i64 (lwO 0 (ltK N.edges N.n.toNat b)) ∧ T 7 = .int .i64 ((2 * b + 1 : Nat) : Int) ∧ m + b = P - 1 ∧ b ≤ P - 1 ∧
    Own G' Ab cb ((lbO (ltK N.edges N.n.toNat b)).map I64) 1 (lbO (ltK N.edges N.n.toNat b)).length ∧ Sub G1 G' ∧ Off G1 Ab ∧ (ltK N.edges N.n.toNat b = none → Ab = none))
    (P - 1) ⟨0, none, 0, by simp (maxSteps := 300000) (disch := omega) only [gs, gs2, gs3, ↓reduceIte, Nat.reduceEqDiff, Nat.mul_one, Nat.add_zero, Nat.zero_add, Nat.zero_mul, Int.toNat_natCast, Int.reduceToNat, Nat.reduceMul, Nat.reduceAdd, decide_true, decide_false, Bool.not_true, Bool.not_false, true_and, and_true, List.map_cons, List.map_nil, List.nil_append, List.cons_append, List.append_nil, Option.map_some, Option.bind_some, List.getElem?_cons_zero, List.getElem?_cons_succ, Bool.false_eq_true, not_true_eq_false, not_false_eq_true, List.contains_cons, List.contains_nil, Nat.reduceBEq, Bool.true_or, Bool.false_or, Bool.or_true, List.set_cons_zero, List.set_cons_succ, List.length_cons, List.length_nil, isLd, Bool.true_and, Bool.false_and, Bool.and_true, Bool.and_false], by simp (maxSteps := 300000) (disch := omega) only [gs, gs2, gs3, ↓reduceIte, Nat.reduceEqDiff, Nat.mul_one, Nat.add_zero, Nat.zero_add, Nat.zero_mul, Int.toNat_natCast, Int.reduceToNat, Nat.reduceMul, Nat.reduceAdd, decide_true, decide_false, Bool.not_true, Bool.not_false, true_and, and_true, List.map_cons, List.map_nil, List.nil_append, List.cons_append, List.append_nil, Option.map_some, Option.bind_some, List.getElem?_cons_zero, List.getElem?_cons_succ, Bool.false_eq_true, not_true_eq_false, not_false_eq_true, List.contains_cons, List.contains_nil, Nat.reduceBEq, Bool.true_or, Bool.false_or, Bool.or_true, List.set_cons_zero, List.set_cons_succ, List.length_cons, List.length_nil, isLd, Bool.true_and, Bool.false_and, Bool.and_true, Bool.and_false] <;> rfl, by simp (maxSteps := 300000) (disch := omega) only [gs, gs2, gs3, ↓reduceIte, Nat.reduceEqDiff, Nat.mul_one, Nat.add_zero, Nat.zero_add, Nat.zero_mul, Int.toNat_natCast, Int.reduceToNat, Nat.reduceMul, Nat.reduceAdd, decide_true, decide_false, Bool.not_true, Bool.not_false, true_and, and_true, List.map_cons, List.map_nil, List.nil_append, List.cons_append, List.append_nil, Option.map_some, Option.bind_some, List.getElem?_cons_zero, List.getElem?_cons_succ, Bool.false_eq_true, not_true_eq_false, not_false_eq_true, List.contains_cons, List.contains_nil, Nat.reduceBEq, Bool.true_or, Bool.false_or, Bool.or_true, List.set_cons_zero, List.set_cons_succ, List.length_cons, List.length_nil, isLd, Bool.true_and, Bool.false_and, Bool.and_true, Bool.and_false] <;> rfl, by simp (maxSteps := 300000) (disch := omega) only [gs, gs2, gs3, ↓reduceIte, Nat.reduceEqDiff, Nat.mul_one, Nat.add_zero, Nat.zero_add, Nat.zero_mul, Int.toNat_natCast, Int.reduceToNat, Nat.reduceMul, Nat.reduceAdd, decide_true, decide_false, Bool.not_true, Bool.not_false, true_and, and_true, List.map_cons, List.map_nil, List.nil_append, List.cons_append, List.append_nil, Option.map_some, Option.bind_some, List.getElem?_cons_zero, List.getElem?_cons_succ, Bool.false_eq_true, not_true_eq_false, not_false_eq_true, List.contains_cons, List.contains_nil, Nat.reduceBEq, Bool.true_or, Bool.false_or, Bool.or_true, List.set_cons_zero, List.set_cons_succ, List.length_cons, List.length_nil, isLd, Bool.true_and, Bool.false_and, Bool.and_true, Bool.and_false] <;> rfl, by omega, by omega, Own.nil _ _, Sub.refl _, Off.nil _, fun _ => rfl⟩ ?_
  rintro m T G' ⟨b, Ab, cb, e1, e5, e6, e7, hm, hbm, hO, hS, hOff, hAn⟩
  have g0 := rd_sub hS f0
  have g1' := rd_sub hS f1
  simp (maxSteps := 300000) (disch := omega) only [gs, gs2, gs3, ↓reduceIte, Nat.reduceEqDiff, Nat.mul_one, Nat.add_zero, Nat.zero_add, Nat.zero_mul, Int.toNat_natCast, Int.reduceToNat, Nat.reduceMul, Nat.reduceAdd, decide_true, decide_false, Bool.not_true, Bool.not_false, true_and, and_true, List.map_cons, List.map_nil, List.nil_append, List.cons_append, List.append_nil, Option.map_some, Option.bind_some, List.getElem?_cons_zero, List.getElem?_cons_succ, Bool.false_eq_true, not_true_eq_false, not_false_eq_true, List.contains_cons, List.contains_nil, Nat.reduceBEq, Bool.true_or, Bool.false_or, Bool.or_true, List.set_cons_zero, List.set_cons_succ, List.length_cons, List.length_nil, isLd, Bool.true_and, Bool.false_and, Bool.and_true, Bool.and_false, e1, e5, e6, e7, g0, hsh]
  by_cases hbb : (((2 * b + 1 : Nat) : Int)) < ((2 * P : Nat) : Int) - 1
  · obtain ⟨hm1, hm2⟩ := hmem (2 * b + 1) (by omega)
    simp (maxSteps := 300000) (disch := omega) only [gs, gs2, gs3, ↓reduceIte, Nat.reduceEqDiff, Nat.mul_one, Nat.add_zero, Nat.zero_add, Nat.zero_mul, Int.toNat_natCast, Int.reduceToNat, Nat.reduceMul, Nat.reduceAdd, decide_true, decide_false, Bool.not_true, Bool.not_false, true_and, and_true, List.map_cons, List.map_nil, List.nil_append, List.cons_append, List.append_nil, Option.map_some, Option.bind_some, List.getElem?_cons_zero, List.getElem?_cons_succ, Bool.false_eq_true, not_true_eq_false, not_false_eq_true, List.contains_cons, List.contains_nil, Nat.reduceBEq, Bool.true_or, Bool.false_or, Bool.or_true, List.set_cons_zero, List.set_cons_succ, List.length_cons, List.length_nil, isLd, Bool.true_and, Bool.false_and, Bool.and_true, Bool.and_false, e1, e5, e6, e7, hbb]
    refine impl_members_ok hm1 fun G'' Al cl hN => ?_
    rw [hm2] at hN ⊢
    have hlen := bitsL_len (2 * b + 1) N.n.toNat
    have g0 := rd_sub hN.sub g0
    have g1'' := rd_sub hN.sub g1'
    have hS2 := hS.trans hN.sub
    simp (maxSteps := 300000) (disch := omega) only [gs, gs2, gs3, ↓reduceIte, Nat.reduceEqDiff, Nat.mul_one, Nat.add_zero, Nat.zero_add, Nat.zero_mul, Int.toNat_natCast, Int.reduceToNat, Nat.reduceMul, Nat.reduceAdd, decide_true, decide_false, Bool.not_true, Bool.not_false, true_and, and_true, List.map_cons, List.map_nil, List.nil_append, List.cons_append, List.append_nil, Option.map_some, Option.bind_some, List.getElem?_cons_zero, List.getElem?_cons_succ, Bool.false_eq_true, not_true_eq_false, not_false_eq_true, List.contains_cons, List.contains_nil, Nat.reduceBEq, Bool.true_or, Bool.false_or, Bool.or_true, List.set_cons_zero, List.set_cons_succ, List.length_cons, List.length_nil, isLd, Bool.true_and, Bool.false_and, Bool.and_true, Bool.and_false, e1, e5, e6, e7, g0, g1'']
    refine impl_cutWeight_ok (N := N) ((h.sub s1).sub hS2) hN.ints hn (by omega) ?_
    have cwb := cw_bd hn (bitsL (2 * b + 1) N.n.toNat) _ (Nat.le_refl _)
    have hyes := ltK_yes (es := N.edges) (n := N.n.toNat) (b := b)
    have hno := fun p => ltK_no (es := N.edges) (n := N.n.toNat) (b := b) (p := p)
    have hL0 : (bitsL (2 * b + 1) N.n.toNat).length ≠ 0 := fun hz => by
      have h0 : (0 : Int) ∈ bitsL (2 * b + 1) N.n.toNat := by
        unfold bitsL
        exact List.mem_map.2 ⟨0, List.mem_filter.2 ⟨List.mem_range.2 (by omega), by simp [Nat.testBit_zero]⟩, rfl⟩
      rw [List.length_eq_zero_iff.1 hz] at h0; simp at h0
    generalize hw : cwK N.edges (bitsL (2 * b + 1) N.n.toNat) N.edges.length = w at *
    generalize hL : bitsL (2 * b + 1) N.n.toNat = L at *
    have hstep : ((2 * b + 1 : Nat) : Int) + 2 = ((2 * (b + 1) + 1 : Nat) : Int) := by omega
    cases hlt : ltK N.edges N.n.toNat b with
    | none =>
      have hy := hyes (.inl hlt)
      have hA := hAn hlt
      subst hA
      rw [hlt] at e5 e6
      simp (maxSteps := 300000) (disch := omega) only [gs, gs2, gs3, ↓reduceIte, Nat.reduceEqDiff, Nat.mul_one, Nat.add_zero, Nat.zero_add, Nat.zero_mul, Int.toNat_natCast, Int.reduceToNat, Nat.reduceMul, Nat.reduceAdd, decide_true, decide_false, Bool.not_true, Bool.not_false, true_and, and_true, List.map_cons, List.map_nil, List.nil_append, List.cons_append, List.append_nil, Option.map_some, Option.bind_some, List.getElem?_cons_zero, List.getElem?_cons_succ, Bool.false_eq_true, not_true_eq_false, not_false_eq_true, List.contains_cons, List.contains_nil, Nat.reduceBEq, Bool.true_or, Bool.false_or, Bool.or_true, List.set_cons_zero, List.set_cons_succ, List.length_cons, List.length_nil, isLd, Bool.true_and, Bool.false_and, Bool.and_true, Bool.and_false, Option.isNone_none, e1, e5, e6, e7]
      exact ⟨m - 1, by omega, _, Sub.refl _, b + 1, Al, cl, by rw [hy] <;> rfl, by rw [hy] <;> rfl, by rw [hstep], by omega, by omega, by rw [hy]; exact hN.fresh, hS2, hN.off.mono hS, fun x => by rw [hy] at x; cases x⟩
    | some p =>
      obtain ⟨B, mm⟩ := p
      obtain ⟨m0, m1, cc, hcc, hB⟩ := ltK_bd hn hlt
      rw [hlt] at e5 e6 hO
      simp only [lwO, lbO] at e5 e6 hO m0 m1 hB
      have hBl : B.length ≤ N.n.toNat := by rw [hB]; exact bitsL_len _ _
      have hB0 : 0 < B.length := by
        have h0 : (0 : Int) ∈ bitsL (2 * cc + 1) N.n.toNat := by
          unfold bitsL
          exact List.mem_map.2 ⟨0, List.mem_filter.2 ⟨List.mem_range.2 (by omega), by simp [Nat.testBit_zero]⟩, rfl⟩
        rw [← hB] at h0
        exact List.length_pos_of_mem h0
      have hsome : Ab.isNone = false := by
        rcases hO with ⟨_, _, h0, _⟩ | ⟨_, _, rfl, _⟩
        · omega
        · rfl
      have hkeep : ltK N.edges N.n.toNat (b + 1) = some (B, mm) → lbO (ltK N.edges N.n.toNat (b + 1)) = B ∧ lwO 0 (ltK N.edges N.n.toNat (b + 1)) = mm ∧ (ltK N.edges N.n.toNat (b + 1) = none → Ab = none) := fun hy => ⟨by rw [hy]; rfl, by rw [hy]; rfl, fun x => by rw [hy] at x; cases x⟩
      have htake : ltK N.edges N.n.toNat (b + 1) = some (L, w) → lbO (ltK N.edges N.n.toNat (b + 1)) = L ∧ lwO 0 (ltK N.edges N.n.toNat (b + 1)) = w ∧ (ltK N.edges N.n.toNat (b + 1) = none → Al = none) := fun hy => ⟨by rw [hy]; rfl, by rw [hy]; rfl, fun x => by rw [hy] at x; cases x⟩
      simp (maxSteps := 300000) (disch := omega) only [gs, gs2, gs3, ↓reduceIte, Nat.reduceEqDiff, Nat.mul_one, Nat.add_zero, Nat.zero_add, Nat.zero_mul, Int.toNat_natCast, Int.reduceToNat, Nat.reduceMul, Nat.reduceAdd, decide_true, decide_false, Bool.not_true, Bool.not_false, true_and, and_true, List.map_cons, List.map_nil, List.nil_append, List.cons_append, List.append_nil, Option.map_some, Option.bind_some, List.getElem?_cons_zero, List.getElem?_cons_succ, Bool.false_eq_true, not_true_eq_false, not_false_eq_true, List.contains_cons, List.contains_nil, Nat.reduceBEq, Bool.true_or, Bool.false_or, Bool.or_true, List.set_cons_zero, List.set_cons_succ, List.length_cons, List.length_nil, isLd, Bool.true_and, Bool.false_and, Bool.and_true, Bool.and_false, hsome, e1, e5, e6, e7]
      by_cases hc1 : w < mm
      · obtain ⟨q1, q2, q3⟩ := htake (hyes (.inr ⟨_, hlt, .inl hc1⟩))
        simp (maxSteps := 300000) (disch := omega) only [gs, gs2, gs3, ↓reduceIte, Nat.reduceEqDiff, Nat.mul_one, Nat.add_zero, Nat.zero_add, Nat.zero_mul, Int.toNat_natCast, Int.reduceToNat, Nat.reduceMul, Nat.reduceAdd, decide_true, decide_false, Bool.not_true, Bool.not_false, true_and, and_true, List.map_cons, List.map_nil, List.nil_append, List.cons_append, List.append_nil, Option.map_some, Option.bind_some, List.getElem?_cons_zero, List.getElem?_cons_succ, Bool.false_eq_true, not_true_eq_false, not_false_eq_true, List.contains_cons, List.contains_nil, Nat.reduceBEq, Bool.true_or, Bool.false_or, Bool.or_true, List.set_cons_zero, List.set_cons_succ, List.length_cons, List.length_nil, isLd, Bool.true_and, Bool.false_and, Bool.and_true, Bool.and_false, e1, e5, e6, e7, hc1]
        exact ⟨m - 1, by omega, _, Sub.refl _, b + 1, Al, cl, by rw [q1], by rw [q2], by rw [hstep], by omega, by omega, by rw [q1]; exact hN.fresh, hS2, hN.off.mono hS, q3⟩
      · simp (maxSteps := 300000) (disch := omega) only [gs, gs2, gs3, ↓reduceIte, Nat.reduceEqDiff, Nat.mul_one, Nat.add_zero, Nat.zero_add, Nat.zero_mul, Int.toNat_natCast, Int.reduceToNat, Nat.reduceMul, Nat.reduceAdd, decide_true, decide_false, Bool.not_true, Bool.not_false, true_and, and_true, List.map_cons, List.map_nil, List.nil_append, List.cons_append, List.append_nil, Option.map_some, Option.bind_some, List.getElem?_cons_zero, List.getElem?_cons_succ, Bool.false_eq_true, not_true_eq_false, not_false_eq_true, List.contains_cons, List.contains_nil, Nat.reduceBEq, Bool.true_or, Bool.false_or, Bool.or_true, List.set_cons_zero, List.set_cons_succ, List.length_cons, List.length_nil, isLd, Bool.true_and, Bool.false_and, Bool.and_true, Bool.and_false, e1, e5, e6, e7, hc1]
        by_cases hc2 : w = mm
        · simp (maxSteps := 300000) (disch := omega) only [gs, gs2, gs3, ↓reduceIte, Nat.reduceEqDiff, Nat.mul_one, Nat.add_zero, Nat.zero_add, Nat.zero_mul, Int.toNat_natCast, Int.reduceToNat, Nat.reduceMul, Nat.reduceAdd, decide_true, decide_false, Bool.not_true, Bool.not_false, true_and, and_true, List.map_cons, List.map_nil, List.nil_append, List.cons_append, List.append_nil, Option.map_some, Option.bind_some, List.getElem?_cons_zero, List.getElem?_cons_succ, Bool.false_eq_true, not_true_eq_false, not_false_eq_true, List.contains_cons, List.contains_nil, Nat.reduceBEq, Bool.true_or, Bool.false_or, Bool.or_true, List.set_cons_zero, List.set_cons_succ, List.length_cons, List.length_nil, isLd, Bool.true_and, Bool.false_and, Bool.and_true, Bool.and_false, eq_true hc2, e1, e5, e6, e7]
          refine slices_Compare_ok hN.ints (hO.sub hN.sub).ints (by omega) (by omega) ?_
          simp (maxSteps := 300000) (disch := omega) only [gs, gs2, gs3, ↓reduceIte, Nat.reduceEqDiff, Nat.mul_one, Nat.add_zero, Nat.zero_add, Nat.zero_mul, Int.toNat_natCast, Int.reduceToNat, Nat.reduceMul, Nat.reduceAdd, decide_true, decide_false, Bool.not_true, Bool.not_false, true_and, and_true, List.map_cons, List.map_nil, List.nil_append, List.cons_append, List.append_nil, Option.map_some, Option.bind_some, List.getElem?_cons_zero, List.getElem?_cons_succ, Bool.false_eq_true, not_true_eq_false, not_false_eq_true, List.contains_cons, List.contains_nil, Nat.reduceBEq, Bool.true_or, Bool.false_or, Bool.or_true, List.set_cons_zero, List.set_cons_succ, List.length_cons, List.length_nil, isLd, Bool.true_and, Bool.false_and, Bool.and_true, Bool.and_false, e1, e5, e6, e7]
          by_cases hc3 : lexC L B < 0
          · obtain ⟨q1, q2, q3⟩ := htake (hyes (.inr ⟨_, hlt, .inr ⟨hc2, hc3⟩⟩))
            simp (maxSteps := 300000) (disch := omega) only [gs, gs2, gs3, ↓reduceIte, Nat.reduceEqDiff, Nat.mul_one, Nat.add_zero, Nat.zero_add, Nat.zero_mul, Int.toNat_natCast, Int.reduceToNat, Nat.reduceMul, Nat.reduceAdd, decide_true, decide_false, Bool.not_true, Bool.not_false, true_and, and_true, List.map_cons, List.map_nil, List.nil_append, List.cons_append, List.append_nil, Option.map_some, Option.bind_some, List.getElem?_cons_zero, List.getElem?_cons_succ, Bool.false_eq_true, not_true_eq_false, not_false_eq_true, List.contains_cons, List.contains_nil, Nat.reduceBEq, Bool.true_or, Bool.false_or, Bool.or_true, List.set_cons_zero, List.set_cons_succ, List.length_cons, List.length_nil, isLd, Bool.true_and, Bool.false_and, Bool.and_true, Bool.and_false, hc3, e1, e5, e6, e7]
            exact ⟨m - 1, by omega, _, Sub.refl _, b + 1, Al, cl, by rw [q1], by rw [q2], by rw [hstep], by omega, by omega, by rw [q1]; exact hN.fresh, hS2, hN.off.mono hS, q3⟩
          · have hnn : ¬ (w < mm ∨ w = mm ∧ lexC L B < 0) := fun y => by
              rcases y with y | y
              · omega
              · exact hc3 y.2
            obtain ⟨q1, q2, q3⟩ := hkeep (hno _ hlt hnn)
            simp (maxSteps := 300000) (disch := omega) only [gs, gs2, gs3, ↓reduceIte, Nat.reduceEqDiff, Nat.mul_one, Nat.add_zero, Nat.zero_add, Nat.zero_mul, Int.toNat_natCast, Int.reduceToNat, Nat.reduceMul, Nat.reduceAdd, decide_true, decide_false, Bool.not_true, Bool.not_false, true_and, and_true, List.map_cons, List.map_nil, List.nil_append, List.cons_append, List.append_nil, Option.map_some, Option.bind_some, List.getElem?_cons_zero, List.getElem?_cons_succ, Bool.false_eq_true, not_true_eq_false, not_false_eq_true, List.contains_cons, List.contains_nil, Nat.reduceBEq, Bool.true_or, Bool.false_or, Bool.or_true, List.set_cons_zero, List.set_cons_succ, List.length_cons, List.length_nil, isLd, Bool.true_and, Bool.false_and, Bool.and_true, Bool.and_false, hc3, e1, e5, e6, e7]
            exact ⟨m - 1, by omega, _, Sub.refl _, b + 1, Ab, cb, by rw [q1], by rw [q2], by rw [hstep], by omega, by omega, by rw [q1]; exact hO.sub hN.sub, hS2, hOff, q3⟩
        · rw [decide_eq_false hc2]
          have hnn : ¬ (w < mm ∨ w = mm ∧ lexC L B < 0) := fun y => by
            rcases y with y | y
            · omega
            · exact hc2 y.1
          obtain ⟨q1, q2, q3⟩ := hkeep (hno _ hlt hnn)
          simp (maxSteps := 300000) (disch := omega) only [gs, gs2, gs3, ↓reduceIte, Nat.reduceEqDiff, Nat.mul_one, Nat.add_zero, Nat.zero_add, Nat.zero_mul, Int.toNat_natCast, Int.reduceToNat, Nat.reduceMul, Nat.reduceAdd, decide_true, decide_false, Bool.not_true, Bool.not_false, true_and, and_true, List.map_cons, List.map_nil, List.nil_append, List.cons_append, List.append_nil, Option.map_some, Option.bind_some, List.getElem?_cons_zero, List.getElem?_cons_succ, Bool.false_eq_true, not_true_eq_false, not_false_eq_true, List.contains_cons, List.contains_nil, Nat.reduceBEq, Bool.true_or, Bool.false_or, Bool.or_true, List.set_cons_zero, List.set_cons_succ, List.length_cons, List.length_nil, isLd, Bool.true_and, Bool.false_and, Bool.and_true, Bool.and_false, e1, e5, e6, e7]
          exact ⟨m - 1, by omega, _, Sub.refl _, b + 1, Ab, cb, by rw [q1], by rw [q2], by rw [hstep], by omega, by omega, by rw [q1]; exact hO.sub hN.sub, hS2, hOff, q3⟩
  · simp (maxSteps := 300000) (disch := omega) only [gs, gs2, gs3, ↓reduceIte, Nat.reduceEqDiff, Nat.mul_one, Nat.add_zero, Nat.zero_add, Nat.zero_mul, Int.toNat_natCast, Int.reduceToNat, Nat.reduceMul, Nat.reduceAdd, decide_true, decide_false, Bool.not_true, Bool.not_false, true_and, and_true, List.map_cons, List.map_nil, List.nil_append, List.cons_append, List.append_nil, Option.map_some, Option.bind_some, List.getElem?_cons_zero, List.getElem?_cons_succ, Bool.false_eq_true, not_true_eq_false, not_false_eq_true, List.contains_cons, List.contains_nil, Nat.reduceBEq, Bool.true_or, Bool.false_or, Bool.or_true, List.set_cons_zero, List.set_cons_succ, List.length_cons, List.length_nil, isLd, Bool.true_and, Bool.false_and, Bool.and_true, Bool.and_false, e1, e5, e6, e7, hbb]
    obtain rfl : b = P - 1 := by omega
    obtain ⟨G3, s3, hN⟩ := hO.new (s1.trans hS) (hOff.mono s1)
    exact ⟨G3, s3, hk _ _ _ hN⟩
theorem law_LightestCut {G : GH} {v0 : Value} {x0 : Gra} (h0 : GraphV G v0 x0) : GC Try.prog 13 [v0] G fun v _ => v = .bool true := by
  obtain ⟨A0, c0, rfl, h0, e0, l0, rn0⟩ := h0
  refine c_laws_FnExactLightestCut_i (by simp) ?_
  unfold graV graC
  simp (maxSteps := 300000) (disch := omega) only [gs, gs2, gs3, ↓reduceIte, Nat.reduceEqDiff, Nat.mul_one, Nat.add_zero, Nat.zero_add, Nat.zero_mul, Int.toNat_natCast, Int.reduceToNat, Nat.reduceMul, Nat.reduceAdd, decide_true, decide_false, Bool.not_true, Bool.not_false, true_and, and_true, List.map_cons, List.map_nil, List.nil_append, List.cons_append, List.append_nil, Option.map_some, Option.bind_some, List.getElem?_cons_zero, List.getElem?_cons_succ, Bool.false_eq_true, not_true_eq_false, not_false_eq_true, List.contains_cons, List.contains_nil, Nat.reduceBEq, Bool.true_or, Bool.false_or, Bool.or_true, List.set_cons_zero, List.set_cons_succ, List.length_cons, List.length_nil, isLd, Bool.true_and, Bool.false_and, Bool.and_true, Bool.and_false]
  have s_b := Sub.refl G
  intro p0 hp0
  generalize hG1 : put G p0 ⟨[.int .i64 x0.n, .slice A0 x0.edges.length c0], true⟩ = G1
  have t1 : Sub G G1 := hG1 ▸ Sub.put hp0 _
  have h0 := h0.sub t1
  have fa0_0 : rd G1 (some ⟨p0, 0, none⟩) = some (.int .i64 x0.n) := by rw [← hG1]; exact rd_box _ _ _ 0 _ rfl
  have fa0_1 : rd G1 (some ⟨p0, 1, none⟩) = some (.slice A0 x0.edges.length c0) := by rw [← hG1]; exact rd_box _ _ _ 1 _ rfl
  have s_b := Sub.refl G1
  have fa0_0c := rd_sub s_b fa0_0
  have fa0_1c := rd_sub s_b fa0_1
  simp (maxSteps := 300000) (disch := omega) only [gs, gs2, gs3, ↓reduceIte, Nat.reduceEqDiff, Nat.mul_one, Nat.add_zero, Nat.zero_add, Nat.zero_mul, Int.toNat_natCast, Int.reduceToNat, Nat.reduceMul, Nat.reduceAdd, decide_true, decide_false, Bool.not_true, Bool.not_false, true_and, and_true, List.map_cons, List.map_nil, List.nil_append, List.cons_append, List.append_nil, Option.map_some, Option.bind_some, List.getElem?_cons_zero, List.getElem?_cons_succ, Bool.false_eq_true, not_true_eq_false, not_false_eq_true, List.contains_cons, List.contains_nil, Nat.reduceBEq, Bool.true_or, Bool.false_or, Bool.or_true, List.set_cons_zero, List.set_cons_succ, List.length_cons, List.length_nil, isLd, Bool.true_and, Bool.false_and, Bool.and_true, Bool.and_false, fa0_0c, fa0_1c]
  refine laws_szGraph_ok (N := x0) ⟨by omega, by omega⟩ (by omega) fun q0 q0a q0b q0c => ?_
  simp (maxSteps := 300000) (disch := omega) only [gs, gs2, gs3, ↓reduceIte, Nat.reduceEqDiff, Nat.mul_one, Nat.add_zero, Nat.zero_add, Nat.zero_mul, Int.toNat_natCast, Int.reduceToNat, Nat.reduceMul, Nat.reduceAdd, decide_true, decide_false, Bool.not_true, Bool.not_false, true_and, and_true, List.map_cons, List.map_nil, List.nil_append, List.cons_append, List.append_nil, Option.map_some, Option.bind_some, List.getElem?_cons_zero, List.getElem?_cons_succ, Bool.false_eq_true, not_true_eq_false, not_false_eq_true, List.contains_cons, List.contains_nil, Nat.reduceBEq, Bool.true_or, Bool.false_or, Bool.or_true, List.set_cons_zero, List.set_cons_succ, List.length_cons, List.length_nil, isLd, Bool.true_and, Bool.false_and, Bool.and_true, Bool.and_false, fa0_0c, fa0_1c]
  by_cases g0 : q0 < 0
  · simp (maxSteps := 300000) (disch := omega) only [gs, gs2, gs3, ↓reduceIte, Nat.reduceEqDiff, Nat.mul_one, Nat.add_zero, Nat.zero_add, Nat.zero_mul, Int.toNat_natCast, Int.reduceToNat, Nat.reduceMul, Nat.reduceAdd, decide_true, decide_false, Bool.not_true, Bool.not_false, true_and, and_true, List.map_cons, List.map_nil, List.nil_append, List.cons_append, List.append_nil, Option.map_some, Option.bind_some, List.getElem?_cons_zero, List.getElem?_cons_succ, Bool.false_eq_true, not_true_eq_false, not_false_eq_true, List.contains_cons, List.contains_nil, Nat.reduceBEq, Bool.true_or, Bool.false_or, Bool.or_true, List.set_cons_zero, List.set_cons_succ, List.length_cons, List.length_nil, isLd, Bool.true_and, Bool.false_and, Bool.and_true, Bool.and_false, g0, fa0_0c, fa0_1c]
  simp (maxSteps := 300000) (disch := omega) only [gs, gs2, gs3, ↓reduceIte, Nat.reduceEqDiff, Nat.mul_one, Nat.add_zero, Nat.zero_add, Nat.zero_mul, Int.toNat_natCast, Int.reduceToNat, Nat.reduceMul, Nat.reduceAdd, decide_true, decide_false, Bool.not_true, Bool.not_false, true_and, and_true, List.map_cons, List.map_nil, List.nil_append, List.cons_append, List.append_nil, Option.map_some, Option.bind_some, List.getElem?_cons_zero, List.getElem?_cons_succ, Bool.false_eq_true, not_true_eq_false, not_false_eq_true, List.contains_cons, List.contains_nil, Nat.reduceBEq, Bool.true_or, Bool.false_or, Bool.or_true, List.set_cons_zero, List.set_cons_succ, List.length_cons, List.length_nil, isLd, Bool.true_and, Bool.false_and, Bool.and_true, Bool.and_false, g0, fa0_0c, fa0_1c]
  refine laws_toGraph_new (N := x0) (h0.sub s_b) (by omega) fun As0 G2 n_s0 => ?_
  have o_s0 := n_s0.own
  have t_s0 := n_s0.sub
  have s_b := s_b.trans t_s0
  have fa0_0c := rd_sub s_b fa0_0
  have fa0_1c := rd_sub s_b fa0_1
  have s_s0 := Sub.rest G1 G2
  simp (maxSteps := 300000) (disch := omega) only [gs, gs2, gs3, ↓reduceIte, Nat.reduceEqDiff, Nat.mul_one, Nat.add_zero, Nat.zero_add, Nat.zero_mul, Int.toNat_natCast, Int.reduceToNat, Nat.reduceMul, Nat.reduceAdd, decide_true, decide_false, Bool.not_true, Bool.not_false, true_and, and_true, List.map_cons, List.map_nil, List.nil_append, List.cons_append, List.append_nil, Option.map_some, Option.bind_some, List.getElem?_cons_zero, List.getElem?_cons_succ, Bool.false_eq_true, not_true_eq_false, not_false_eq_true, List.contains_cons, List.contains_nil, Nat.reduceBEq, Bool.true_or, Bool.false_or, Bool.or_true, List.set_cons_zero, List.set_cons_succ, List.length_cons, List.length_nil, isLd, Bool.true_and, Bool.false_and, Bool.and_true, Bool.and_false, fa0_0c, fa0_1c]
  have hlen : (lightV x0).1.length ≤ 2 ^ 20 := lightV_len x0
  refine spec_LightestCut_ok (o_s0.sub s_s0).t3 (by omega) fun G3 Aw cw n_w => ?_
  have o_w := n_w.own
  have f_b_w : Off G1 Aw := n_w.off.mono s_b
  have t_w := n_w.sub
  have s_b := s_b.trans t_w
  have fa0_0c := rd_sub s_b fa0_0
  have fa0_1c := rd_sub s_b fa0_1
  have s_w : Sub (rest G2 G3) G3 := Sub.rest _ _
  simp (maxSteps := 300000) (disch := omega) only [gs, gs2, gs3, ↓reduceIte, Nat.reduceEqDiff, Nat.mul_one, Nat.add_zero, Nat.zero_add, Nat.zero_mul, Int.toNat_natCast, Int.reduceToNat, Nat.reduceMul, Nat.reduceAdd, decide_true, decide_false, Bool.not_true, Bool.not_false, true_and, and_true, List.map_cons, List.map_nil, List.nil_append, List.cons_append, List.append_nil, Option.map_some, Option.bind_some, List.getElem?_cons_zero, List.getElem?_cons_succ, Bool.false_eq_true, not_true_eq_false, not_false_eq_true, List.contains_cons, List.contains_nil, Nat.reduceBEq, Bool.true_or, Bool.false_or, Bool.or_true, List.set_cons_zero, List.set_cons_succ, List.length_cons, List.length_nil, isLd, Bool.true_and, Bool.false_and, Bool.and_true, Bool.and_false, fa0_0c, fa0_1c]
  refine laws_toGraph_new (N := x0) (h0.sub s_b) (by omega) fun Ai0 G4 n_i0 => ?_
  have o_i0 := n_i0.own
  have f_b_i0 : Off G1 Ai0 := n_i0.off.mono s_b
  have f_w_i0 : Off (rest G2 G3) Ai0 := n_i0.off.mono s_w
  have f_i0_w : Off (rest G3 G4) Aw := Off.rest (own_ne (o_w.sub s_w))
  have t_i0 := n_i0.sub
  have s_b := s_b.trans t_i0
  have s_w := s_w.trans t_i0
  have fa0_0c := rd_sub s_b fa0_0
  have fa0_1c := rd_sub s_b fa0_1
  have s_i0 : Sub (rest G3 G4) G4 := Sub.rest _ _
  simp (maxSteps := 300000) (disch := omega) only [gs, gs2, gs3, ↓reduceIte, Nat.reduceEqDiff, Nat.mul_one, Nat.add_zero, Nat.zero_add, Nat.zero_mul, Int.toNat_natCast, Int.reduceToNat, Nat.reduceMul, Nat.reduceAdd, decide_true, decide_false, Bool.not_true, Bool.not_false, true_and, and_true, List.map_cons, List.map_nil, List.nil_append, List.cons_append, List.append_nil, Option.map_some, Option.bind_some, List.getElem?_cons_zero, List.getElem?_cons_succ, Bool.false_eq_true, not_true_eq_false, not_false_eq_true, List.contains_cons, List.contains_nil, Nat.reduceBEq, Bool.true_or, Bool.false_or, Bool.or_true, List.set_cons_zero, List.set_cons_succ, List.length_cons, List.length_nil, isLd, Bool.true_and, Bool.false_and, Bool.and_true, Bool.and_false, fa0_0c, fa0_1c]
  intro p1 hp1
  simp (maxSteps := 300000) (disch := omega) only [gs, gs2, gs3, ↓reduceIte, Nat.reduceEqDiff, Nat.mul_one, Nat.add_zero, Nat.zero_add, Nat.zero_mul, Int.toNat_natCast, Int.reduceToNat, Nat.reduceMul, Nat.reduceAdd, decide_true, decide_false, Bool.not_true, Bool.not_false, true_and, and_true, List.map_cons, List.map_nil, List.nil_append, List.cons_append, List.append_nil, Option.map_some, Option.bind_some, List.getElem?_cons_zero, List.getElem?_cons_succ, Bool.false_eq_true, not_true_eq_false, not_false_eq_true, List.contains_cons, List.contains_nil, Nat.reduceBEq, Bool.true_or, Bool.false_or, Bool.or_true, List.set_cons_zero, List.set_cons_succ, List.length_cons, List.length_nil, isLd, Bool.true_and, Bool.false_and, Bool.and_true, Bool.and_false, fa0_0c, fa0_1c]
  refine st_fresh (vs := [.int .i64 x0.n, .slice Ai0 x0.edges.length x0.edges.length]) rfl rfl rfl (by intro v hv; simp only [List.mem_cons, List.not_mem_nil, or_false] at hv; rcases hv with rfl | rfl <;> rfl) ?_
  have b_x0 := box_rest (cs := [.int .i64 x0.n, .slice Ai0 x0.edges.length x0.edges.length]) hp1
  have f_x0_w : Off (rest G4 (put G4 p1 ⟨[.int .i64 x0.n, .slice Ai0 x0.edges.length x0.edges.length], true⟩)) Aw := Off.rest (own_ne (o_w.sub s_w))
  have f_x0_i0 : Off (rest G4 (put G4 p1 ⟨[.int .i64 x0.n, .slice Ai0 x0.edges.length x0.edges.length], true⟩)) Ai0 := Off.rest (own_ne (o_i0.sub s_i0))
  have t_x0 := Sub.put hp1 ⟨[.int .i64 x0.n, .slice Ai0 x0.edges.length x0.edges.length], true⟩
  have s_x0 : Sub (rest G4 (put G4 p1 ⟨[.int .i64 x0.n, .slice Ai0 x0.edges.length x0.edges.length], true⟩)) _ := Sub.rest _ (put G4 p1 ⟨[.int .i64 x0.n, .slice Ai0 x0.edges.length x0.edges.length], true⟩)
  have fi0_0 := b_x0 0 _ rfl
  have fi0_1 := b_x0 1 _ rfl
  revert b_x0 f_x0_w f_x0_i0 t_x0 s_x0 fi0_0 fi0_1
  generalize rest G4 (put G4 p1 ⟨[.int .i64 x0.n, .slice Ai0 x0.edges.length x0.edges.length], true⟩) = Hx0
  generalize put G4 p1 ⟨[.int .i64 x0.n, .slice Ai0 x0.edges.length x0.edges.length], true⟩ = G5
  intro b_x0 f_x0_w f_x0_i0 t_x0 s_x0 fi0_0 fi0_1
  have s_b := s_b.trans t_x0
  have s_w := s_w.trans t_x0
  have s_i0 := s_i0.trans t_x0
  have fa0_0c := rd_sub s_b fa0_0
  have fa0_1c := rd_sub s_b fa0_1
  have fi0_0c := rd_sub s_x0 fi0_0
  have fi0_1c := rd_sub s_x0 fi0_1
  simp (maxSteps := 300000) (disch := omega) only [gs, gs2, gs3, ↓reduceIte, Nat.reduceEqDiff, Nat.mul_one, Nat.add_zero, Nat.zero_add, Nat.zero_mul, Int.toNat_natCast, Int.reduceToNat, Nat.reduceMul, Nat.reduceAdd, decide_true, decide_false, Bool.not_true, Bool.not_false, true_and, and_true, List.map_cons, List.map_nil, List.nil_append, List.cons_append, List.append_nil, Option.map_some, Option.bind_some, List.getElem?_cons_zero, List.getElem?_cons_succ, Bool.false_eq_true, not_true_eq_false, not_false_eq_true, List.contains_cons, List.contains_nil, Nat.reduceBEq, Bool.true_or, Bool.false_or, Bool.or_true, List.set_cons_zero, List.set_cons_succ, List.length_cons, List.length_nil, isLd, Bool.true_and, Bool.false_and, Bool.and_true, Bool.and_false, fa0_0c, fa0_1c, fi0_0c, fi0_1c]
  refine impl_LightestCut_ok (o_i0.sub s_i0).t3 (by omega) fun G6 Ag cg n_g => ?_
  have o_g := n_g.own
  have f_b_g : Off G1 Ag := n_g.off.mono s_b
  have f_w_g : Off (rest G2 G3) Ag := n_g.off.mono s_w
  have f_i0_g : Off (rest G3 G4) Ag := n_g.off.mono s_i0
  have f_x0_g : Off Hx0 Ag := n_g.off.mono s_x0
  have f_g_w : Off (rest G5 G6) Aw := Off.rest (own_ne (o_w.sub s_w))
  have f_g_i0 : Off (rest G5 G6) Ai0 := Off.rest (own_ne (o_i0.sub s_i0))
  have t_g := n_g.sub
  have s_b := s_b.trans t_g
  have s_w := s_w.trans t_g
  have s_i0 := s_i0.trans t_g
  have s_x0 := s_x0.trans t_g
  have fa0_0c := rd_sub s_b fa0_0
  have fa0_1c := rd_sub s_b fa0_1
  have fi0_0c := rd_sub s_x0 fi0_0
  have fi0_1c := rd_sub s_x0 fi0_1
  have s_g : Sub (rest G5 G6) G6 := Sub.rest _ _
  simp (maxSteps := 300000) (disch := omega) only [gs, gs2, gs3, ↓reduceIte, Nat.reduceEqDiff, Nat.mul_one, Nat.add_zero, Nat.zero_add, Nat.zero_mul, Int.toNat_natCast, Int.reduceToNat, Nat.reduceMul, Nat.reduceAdd, decide_true, decide_false, Bool.not_true, Bool.not_false, true_and, and_true, List.map_cons, List.map_nil, List.nil_append, List.cons_append, List.append_nil, Option.map_some, Option.bind_some, List.getElem?_cons_zero, List.getElem?_cons_succ, Bool.false_eq_true, not_true_eq_false, not_false_eq_true, List.contains_cons, List.contains_nil, Nat.reduceBEq, Bool.true_or, Bool.false_or, Bool.or_true, List.set_cons_zero, List.set_cons_succ, List.length_cons, List.length_nil, isLd, Bool.true_and, Bool.false_and, Bool.and_true, Bool.and_false, fa0_0c, fa0_1c, fi0_0c, fi0_1c]
  refine laws_eqInt64S_ok (o_g.sub s_g).ints (o_w.sub s_w).ints (by omega) ?_
  simp (maxSteps := 300000) (disch := omega) only [gs, gs2, gs3, ↓reduceIte, Nat.reduceEqDiff, Nat.mul_one, Nat.add_zero, Nat.zero_add, Nat.zero_mul, Int.toNat_natCast, Int.reduceToNat, Nat.reduceMul, Nat.reduceAdd, decide_true, decide_false, Bool.not_true, Bool.not_false, true_and, and_true, List.map_cons, List.map_nil, List.nil_append, List.cons_append, List.append_nil, Option.map_some, Option.bind_some, List.getElem?_cons_zero, List.getElem?_cons_succ, Bool.false_eq_true, not_true_eq_false, not_false_eq_true, List.contains_cons, List.contains_nil, Nat.reduceBEq, Bool.true_or, Bool.false_or, Bool.or_true, List.set_cons_zero, List.set_cons_succ, List.length_cons, List.length_nil, isLd, Bool.true_and, Bool.false_and, Bool.and_true, Bool.and_false, eq_self, fa0_0c, fa0_1c, fi0_0c, fi0_1c]
  refine laws_toGraph_new (N := x0) (h0.sub s_b) (by omega) fun Ae0 G7 n_e0 => ?_
  have o_e0 := n_e0.own
  have t_e0 := n_e0.sub
  have s_b := s_b.trans t_e0
  have s_w := s_w.trans t_e0
  have s_i0 := s_i0.trans t_e0
  have s_x0 := s_x0.trans t_e0
  have s_g := s_g.trans t_e0
  have fa0_0c := rd_sub s_b fa0_0
  have fa0_1c := rd_sub s_b fa0_1
  have fi0_0c := rd_sub s_x0 fi0_0
  have fi0_1c := rd_sub s_x0 fi0_1
  have s_e0 := Sub.rest G6 G7
  simp (maxSteps := 300000) (disch := omega) only [gs, gs2, gs3, ↓reduceIte, Nat.reduceEqDiff, Nat.mul_one, Nat.add_zero, Nat.zero_add, Nat.zero_mul, Int.toNat_natCast, Int.reduceToNat, Nat.reduceMul, Nat.reduceAdd, decide_true, decide_false, Bool.not_true, Bool.not_false, true_and, and_true, List.map_cons, List.map_nil, List.nil_append, List.cons_append, List.append_nil, Option.map_some, Option.bind_some, List.getElem?_cons_zero, List.getElem?_cons_succ, Bool.false_eq_true, not_true_eq_false, not_false_eq_true, List.contains_cons, List.contains_nil, Nat.reduceBEq, Bool.true_or, Bool.false_or, Bool.or_true, List.set_cons_zero, List.set_cons_succ, List.length_cons, List.length_nil, isLd, Bool.true_and, Bool.false_and, Bool.and_true, Bool.and_false, fa0_0c, fa0_1c, fi0_0c, fi0_1c]
  refine laws_eqGraph_ok (N := x0) (M := x0) (o_i0.sub s_i0).t3 (o_e0.sub s_e0).t3 (by omega) fun b hb => ?_
  obtain rfl : b = true := hb.2 rfl
  simp (maxSteps := 300000) (disch := omega) only [gs, gs2, gs3, ↓reduceIte, Nat.reduceEqDiff, Nat.mul_one, Nat.add_zero, Nat.zero_add, Nat.zero_mul, Int.toNat_natCast, Int.reduceToNat, Nat.reduceMul, Nat.reduceAdd, decide_true, decide_false, Bool.not_true, Bool.not_false, true_and, and_true, List.map_cons, List.map_nil, List.nil_append, List.cons_append, List.append_nil, Option.map_some, Option.bind_some, List.getElem?_cons_zero, List.getElem?_cons_succ, Bool.false_eq_true, not_true_eq_false, not_false_eq_true, List.contains_cons, List.contains_nil, Nat.reduceBEq, Bool.true_or, Bool.false_or, Bool.or_true, List.set_cons_zero, List.set_cons_succ, List.length_cons, List.length_nil, isLd, Bool.true_and, Bool.false_and, Bool.and_true, Bool.and_false, fa0_0c, fa0_1c, fi0_0c, fi0_1c]
  refine laws_markGraph_ok (N := x0) (o_i0.sub s_i0) (by omega) (by omega) fun G8 k0 k0a k0b u0 => ?_
  have s_b := u0.sub s_b f_b_i0
  have s_w := u0.sub s_w f_w_i0
  have s_x0 := u0.sub s_x0 f_x0_i0
  have s_g := u0.sub s_g f_g_i0
  have fa0_0c := rd_sub s_b fa0_0
  have fa0_1c := rd_sub s_b fa0_1
  have fi0_0c := rd_sub s_x0 fi0_0
  have fi0_1c := rd_sub s_x0 fi0_1
  simp (maxSteps := 300000) (disch := omega) only [gs, gs2, gs3, ↓reduceIte, Nat.reduceEqDiff, Nat.mul_one, Nat.add_zero, Nat.zero_add, Nat.zero_mul, Int.toNat_natCast, Int.reduceToNat, Nat.reduceMul, Nat.reduceAdd, decide_true, decide_false, Bool.not_true, Bool.not_false, true_and, and_true, List.map_cons, List.map_nil, List.nil_append, List.cons_append, List.append_nil, Option.map_some, Option.bind_some, List.getElem?_cons_zero, List.getElem?_cons_succ, Bool.false_eq_true, not_true_eq_false, not_false_eq_true, List.contains_cons, List.contains_nil, Nat.reduceBEq, Bool.true_or, Bool.false_or, Bool.or_true, List.set_cons_zero, List.set_cons_succ, List.length_cons, List.length_nil, isLd, Bool.true_and, Bool.false_and, Bool.and_true, Bool.and_false, fa0_0c, fa0_1c, fi0_0c, fi0_1c]
  simp (maxSteps := 300000) (disch := omega) only [gs, gs2, gs3, ↓reduceIte, Nat.reduceEqDiff, Nat.mul_one, Nat.add_zero, Nat.zero_add, Nat.zero_mul, Int.toNat_natCast, Int.reduceToNat, Nat.reduceMul, Nat.reduceAdd, decide_true, decide_false, Bool.not_true, Bool.not_false, true_and, and_true, List.map_cons, List.map_nil, List.nil_append, List.cons_append, List.append_nil, Option.map_some, Option.bind_some, List.getElem?_cons_zero, List.getElem?_cons_succ, Bool.false_eq_true, not_true_eq_false, not_false_eq_true, List.contains_cons, List.contains_nil, Nat.reduceBEq, Bool.true_or, Bool.false_or, Bool.or_true, List.set_cons_zero, List.set_cons_succ, List.length_cons, List.length_nil, isLd, Bool.true_and, Bool.false_and, Bool.and_true, Bool.and_false, show ∀ z : Int, 0 ≤ z → (z < 0) = False from fun z hz => eq_false (by omega), fa0_0c, fa0_1c, fi0_0c, fi0_1c]
  refine laws_eqInt64S_ok (o_g.sub s_g).ints (o_w.sub s_w).ints (by omega) ?_
  simp (maxSteps := 300000) (disch := omega) only [gs, gs2, gs3, ↓reduceIte, Nat.reduceEqDiff, Nat.mul_one, Nat.add_zero, Nat.zero_add, Nat.zero_mul, Int.toNat_natCast, Int.reduceToNat, Nat.reduceMul, Nat.reduceAdd, decide_true, decide_false, Bool.not_true, Bool.not_false, true_and, and_true, List.map_cons, List.map_nil, List.nil_append, List.cons_append, List.append_nil, Option.map_some, Option.bind_some, List.getElem?_cons_zero, List.getElem?_cons_succ, Bool.false_eq_true, not_true_eq_false, not_false_eq_true, List.contains_cons, List.contains_nil, Nat.reduceBEq, Bool.true_or, Bool.false_or, Bool.or_true, List.set_cons_zero, List.set_cons_succ, List.length_cons, List.length_nil, isLd, Bool.true_and, Bool.false_and, Bool.and_true, Bool.and_false, eq_self, fa0_0c, fa0_1c, fi0_0c, fi0_1c]
  refine laws_markInt64S_ok (o_g.sub s_g) (by omega) (by omega) fun G9 ug om => ?_
  have s_b := ug.sub s_b f_b_g
  have s_w := ug.sub s_w f_w_g
  have s_x0 := ug.sub s_x0 f_x0_g
  have fa0_0c := rd_sub s_b fa0_0
  have fa0_1c := rd_sub s_b fa0_1
  have fi0_0c := rd_sub s_x0 fi0_0
  have fi0_1c := rd_sub s_x0 fi0_1
  have s_m := Sub.refl G9
  simp (maxSteps := 300000) (disch := omega) only [gs, gs2, gs3, ↓reduceIte, Nat.reduceEqDiff, Nat.mul_one, Nat.add_zero, Nat.zero_add, Nat.zero_mul, Int.toNat_natCast, Int.reduceToNat, Nat.reduceMul, Nat.reduceAdd, decide_true, decide_false, Bool.not_true, Bool.not_false, true_and, and_true, List.map_cons, List.map_nil, List.nil_append, List.cons_append, List.append_nil, Option.map_some, Option.bind_some, List.getElem?_cons_zero, List.getElem?_cons_succ, Bool.false_eq_true, not_true_eq_false, not_false_eq_true, List.contains_cons, List.contains_nil, Nat.reduceBEq, Bool.true_or, Bool.false_or, Bool.or_true, List.set_cons_zero, List.set_cons_succ, List.length_cons, List.length_nil, isLd, Bool.true_and, Bool.false_and, Bool.and_true, Bool.and_false, fa0_0c, fa0_1c, fi0_0c, fi0_1c]
  refine laws_heldInt64S_ok (om.sub s_m).mk (by omega) (by omega) ?_
  simp (maxSteps := 300000) (disch := omega) only [gs, gs2, gs3, ↓reduceIte, Nat.reduceEqDiff, Nat.mul_one, Nat.add_zero, Nat.zero_add, Nat.zero_mul, Int.toNat_natCast, Int.reduceToNat, Nat.reduceMul, Nat.reduceAdd, decide_true, decide_false, Bool.not_true, Bool.not_false, true_and, and_true, List.map_cons, List.map_nil, List.nil_append, List.cons_append, List.append_nil, Option.map_some, Option.bind_some, List.getElem?_cons_zero, List.getElem?_cons_succ, Bool.false_eq_true, not_true_eq_false, not_false_eq_true, List.contains_cons, List.contains_nil, Nat.reduceBEq, Bool.true_or, Bool.false_or, Bool.or_true, List.set_cons_zero, List.set_cons_succ, List.length_cons, List.length_nil, isLd, Bool.true_and, Bool.false_and, Bool.and_true, Bool.and_false, eq_self, show (1 + ((lightV x0).1.length : Int) < 0) = False from eq_false (by omega), fa0_0c, fa0_1c, fi0_0c, fi0_1c]
  refine laws_toGraph_new (N := x0) (h0.sub s_b) (by omega) fun Ah0 G10 n_h0 => ?_
  have o_h0 := n_h0.own
  have t_h0 := n_h0.sub
  have s_b := s_b.trans t_h0
  have s_w := s_w.trans t_h0
  have s_x0 := s_x0.trans t_h0
  have s_m := s_m.trans t_h0
  have fa0_0c := rd_sub s_b fa0_0
  have fa0_1c := rd_sub s_b fa0_1
  have fi0_0c := rd_sub s_x0 fi0_0
  have fi0_1c := rd_sub s_x0 fi0_1
  have s_h0 := Sub.rest G9 G10
  simp (maxSteps := 300000) (disch := omega) only [gs, gs2, gs3, ↓reduceIte, Nat.reduceEqDiff, Nat.mul_one, Nat.add_zero, Nat.zero_add, Nat.zero_mul, Int.toNat_natCast, Int.reduceToNat, Nat.reduceMul, Nat.reduceAdd, decide_true, decide_false, Bool.not_true, Bool.not_false, true_and, and_true, List.map_cons, List.map_nil, List.nil_append, List.cons_append, List.append_nil, Option.map_some, Option.bind_some, List.getElem?_cons_zero, List.getElem?_cons_succ, Bool.false_eq_true, not_true_eq_false, not_false_eq_true, List.contains_cons, List.contains_nil, Nat.reduceBEq, Bool.true_or, Bool.false_or, Bool.or_true, List.set_cons_zero, List.set_cons_succ, List.length_cons, List.length_nil, isLd, Bool.true_and, Bool.false_and, Bool.and_true, Bool.and_false, fa0_0c, fa0_1c, fi0_0c, fi0_1c]
  refine impl_LightestCut_ok (o_h0.sub s_h0).t3 (by omega) fun G11 Ah ch n_h => ?_
  have o_h := n_h.own
  have t_h := n_h.sub
  have s_b := s_b.trans t_h
  have s_w := s_w.trans t_h
  have s_x0 := s_x0.trans t_h
  have s_m := s_m.trans t_h
  have s_h0 := s_h0.trans t_h
  have fa0_0c := rd_sub s_b fa0_0
  have fa0_1c := rd_sub s_b fa0_1
  have fi0_0c := rd_sub s_x0 fi0_0
  have fi0_1c := rd_sub s_x0 fi0_1
  have s_h := Sub.rest G10 G11
  simp (maxSteps := 300000) (disch := omega) only [gs, gs2, gs3, ↓reduceIte, Nat.reduceEqDiff, Nat.mul_one, Nat.add_zero, Nat.zero_add, Nat.zero_mul, Int.toNat_natCast, Int.reduceToNat, Nat.reduceMul, Nat.reduceAdd, decide_true, decide_false, Bool.not_true, Bool.not_false, true_and, and_true, List.map_cons, List.map_nil, List.nil_append, List.cons_append, List.append_nil, Option.map_some, Option.bind_some, List.getElem?_cons_zero, List.getElem?_cons_succ, Bool.false_eq_true, not_true_eq_false, not_false_eq_true, List.contains_cons, List.contains_nil, Nat.reduceBEq, Bool.true_or, Bool.false_or, Bool.or_true, List.set_cons_zero, List.set_cons_succ, List.length_cons, List.length_nil, isLd, Bool.true_and, Bool.false_and, Bool.and_true, Bool.and_false, fa0_0c, fa0_1c, fi0_0c, fi0_1c]
  refine laws_eqInt64S_ok (o_h.sub s_h).ints (o_w.sub s_w).ints (by omega) ?_
  simp (maxSteps := 300000) (disch := omega) only [gs, gs2, gs3, ↓reduceIte, Nat.reduceEqDiff, Nat.mul_one, Nat.add_zero, Nat.zero_add, Nat.zero_mul, Int.toNat_natCast, Int.reduceToNat, Nat.reduceMul, Nat.reduceAdd, decide_true, decide_false, Bool.not_true, Bool.not_false, true_and, and_true, List.map_cons, List.map_nil, List.nil_append, List.cons_append, List.append_nil, Option.map_some, Option.bind_some, List.getElem?_cons_zero, List.getElem?_cons_succ, Bool.false_eq_true, not_true_eq_false, not_false_eq_true, List.contains_cons, List.contains_nil, Nat.reduceBEq, Bool.true_or, Bool.false_or, Bool.or_true, List.set_cons_zero, List.set_cons_succ, List.length_cons, List.length_nil, isLd, Bool.true_and, Bool.false_and, Bool.and_true, Bool.and_false, eq_self, fa0_0c, fa0_1c, fi0_0c, fi0_1c]
  refine laws_heldInt64S_ok (om.sub s_m).mk (by omega) (by omega) ?_
  simp (maxSteps := 300000) (disch := omega) only [gs, gs2, gs3, ↓reduceIte, Nat.reduceEqDiff, Nat.mul_one, Nat.add_zero, Nat.zero_add, Nat.zero_mul, Int.toNat_natCast, Int.reduceToNat, Nat.reduceMul, Nat.reduceAdd, decide_true, decide_false, Bool.not_true, Bool.not_false, true_and, and_true, List.map_cons, List.map_nil, List.nil_append, List.cons_append, List.append_nil, Option.map_some, Option.bind_some, List.getElem?_cons_zero, List.getElem?_cons_succ, Bool.false_eq_true, not_true_eq_false, not_false_eq_true, List.contains_cons, List.contains_nil, Nat.reduceBEq, Bool.true_or, Bool.false_or, Bool.or_true, List.set_cons_zero, List.set_cons_succ, List.length_cons, List.length_nil, isLd, Bool.true_and, Bool.false_and, Bool.and_true, Bool.and_false, eq_self, show (1 + ((lightV x0).1.length : Int) < 0) = False from eq_false (by omega), fa0_0c, fa0_1c, fi0_0c, fi0_1c]

end Go.Proofs.Ytmlkgpoakkgjbaa.Gh
