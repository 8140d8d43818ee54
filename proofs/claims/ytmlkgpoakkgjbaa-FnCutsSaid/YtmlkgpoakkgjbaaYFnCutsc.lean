/- What the functions that the law FnCuts reaches return, and the law; it stands under no condition. -/
import Derived.Test.YtmlkgpoakkgjbaaYFnCutsb
namespace Go.Proofs.Ytmlkgpoakkgjbaa.Gh
open Go Go.RowKit Go.Proofs
set_option linter.unusedVariables false
set_option linter.unusedSimpArgs false
set_option maxHeartbeats 4000000

theorem spec_l19Push_ok {G H : GH} {q : Option Addr} {N : Net} {A : Option Addr} {c bf : Nat} {fl : List Int} {u v a : Int} (h : NetP H q N A c) (hS : Sub H G) (hH : H bf = none) (hf : G bf = some ⟨fl.map I64, true⟩) (hn : NetOk N) (hc : Cap N.arcs fl) (ha : 0 ≤ a ∧ a ≤ 2000000) {K : Value → GH → Prop}
    (hk : ∀ r, K r (put G bf ⟨(push N.arcs fl u v a).map I64, true⟩)) : GC Try.prog 239 [.pointer q, .slice (some ⟨bf, 0, none⟩) fl.length fl.length, .int .i64 u, .int .i64 v, .int .i64 a] G K := by
  refine c_spec_l19Push_i (by simp) ?_
  have hq := rd_some h.f0
  have hn5 := hn.2.2.2.2.2
  have hsrt : Srt N.arcs := hn.2.2.2.2.1.2
  have hlen := hc.1
  have hp : ∀ f : List Int, NetP (put G bf ⟨f.map I64, true⟩) q N A c := fun f => h.sub (hS.skip hH)
  simp (maxSteps := 300000) (disch := omega) only [gs, gs2, gs3, ↓reduceIte, Nat.reduceEqDiff, Nat.mul_one, Nat.add_zero, Nat.zero_add, Nat.zero_mul, Int.toNat_natCast, Int.reduceToNat, Nat.reduceMul, Nat.reduceAdd, decide_true, decide_false, Bool.not_true, Bool.not_false, true_and, and_true, List.map_cons, List.map_nil, List.nil_append, List.cons_append, List.append_nil, Option.map_some, Option.bind_some, List.getElem?_cons_zero, List.getElem?_cons_succ, Bool.false_eq_true, not_true_eq_false, not_false_eq_true, List.contains_cons, List.contains_nil, Nat.reduceBEq, Bool.true_or, Bool.false_or, Bool.or_true, List.set_cons_zero, List.set_cons_succ, List.length_cons, List.length_nil, isLd, Bool.true_and, Bool.false_and, Bool.and_true, Bool.and_false]
  refine gLoop_intro (fun m T G' => ∃ k : Nat, T 0 = .pointer q ∧ T 1 = .slice (some ⟨bf, 0, none⟩) fl.length fl.length ∧ T 2 = .int .i64 u ∧ T 3 = .int .i64 v ∧ T 4 = .int .i64 (backM N.arcs fl u v a k) ∧ T 10 = .int .i64 k ∧ m + k = N.arcs.length ∧ k ≤ N.arcs.length ∧ G' = put G bf ⟨(backF N.arcs fl u v a k).map I64, true⟩)
    N.arcs.length ⟨0, by simp (maxSteps := 300000) (disch := omega) only [gs, gs2, gs3, ↓reduceIte, Nat.reduceEqDiff, Nat.mul_one, Nat.add_zero, Nat.zero_add, Nat.zero_mul, Int.toNat_natCast, Int.reduceToNat, Nat.reduceMul, Nat.reduceAdd, decide_true, decide_false, Bool.not_true, Bool.not_false, true_and, and_true, List.map_cons, List.map_nil, List.nil_append, List.cons_append, List.append_nil, Option.map_some, Option.bind_some, List.getElem?_cons_zero, List.getElem?_cons_succ, Bool.false_eq_true, not_true_eq_false, not_false_eq_true, List.contains_cons, List.contains_nil, Nat.reduceBEq, Bool.true_or, Bool.false_or, Bool.or_true, List.set_cons_zero, List.set_cons_succ, List.length_cons, List.length_nil, isLd, Bool.true_and, Bool.false_and, Bool.and_true, Bool.and_false], by simp (maxSteps := 300000) (disch := omega) only [gs, gs2, gs3, ↓reduceIte, Nat.reduceEqDiff, Nat.mul_one, Nat.add_zero, Nat.zero_add, Nat.zero_mul, Int.toNat_natCast, Int.reduceToNat, Nat.reduceMul, Nat.reduceAdd, decide_true, decide_false, Bool.not_true, Bool.not_false, true_and, and_true, List.map_cons, List.map_nil, List.nil_append, List.cons_append, List.append_nil, Option.map_some, Option.bind_some, List.getElem?_cons_zero, List.getElem?_cons_succ, Bool.false_eq_true, not_true_eq_false, not_false_eq_true, List.contains_cons, List.contains_nil, Nat.reduceBEq, Bool.true_or, Bool.false_or, Bool.or_true, List.set_cons_zero, List.set_cons_succ, List.length_cons, List.length_nil, isLd, Bool.true_and, Bool.false_and, Bool.and_true, Bool.and_false], by simp (maxSteps := 300000) (disch := omega) only [gs, gs2, gs3, ↓reduceIte, Nat.reduceEqDiff, Nat.mul_one, Nat.add_zero, Nat.zero_add, Nat.zero_mul, Int.toNat_natCast, Int.reduceToNat, Nat.reduceMul, Nat.reduceAdd, decide_true, decide_false, Bool.not_true, Bool.not_false, true_and, and_true, List.map_cons, List.map_nil, List.nil_append, List.cons_append, List.append_nil, Option.map_some, Option.bind_some, List.getElem?_cons_zero, List.getElem?_cons_succ, Bool.false_eq_true, not_true_eq_false, not_false_eq_true, List.contains_cons, List.contains_nil, Nat.reduceBEq, Bool.true_or, Bool.false_or, Bool.or_true, List.set_cons_zero, List.set_cons_succ, List.length_cons, List.length_nil, isLd, Bool.true_and, Bool.false_and, Bool.and_true, Bool.and_false], by simp (maxSteps := 300000) (disch := omega) only [gs, gs2, gs3, ↓reduceIte, Nat.reduceEqDiff, Nat.mul_one, Nat.add_zero, Nat.zero_add, Nat.zero_mul, Int.toNat_natCast, Int.reduceToNat, Nat.reduceMul, Nat.reduceAdd, decide_true, decide_false, Bool.not_true, Bool.not_false, true_and, and_true, List.map_cons, List.map_nil, List.nil_append, List.cons_append, List.append_nil, Option.map_some, Option.bind_some, List.getElem?_cons_zero, List.getElem?_cons_succ, Bool.false_eq_true, not_true_eq_false, not_false_eq_true, List.contains_cons, List.contains_nil, Nat.reduceBEq, Bool.true_or, Bool.false_or, Bool.or_true, List.set_cons_zero, List.set_cons_succ, List.length_cons, List.length_nil, isLd, Bool.true_and, Bool.false_and, Bool.and_true, Bool.and_false], by simp (maxSteps := 300000) (disch := omega) only [gs, gs2, gs3, ↓reduceIte, Nat.reduceEqDiff, Nat.mul_one, Nat.add_zero, Nat.zero_add, Nat.zero_mul, Int.toNat_natCast, Int.reduceToNat, Nat.reduceMul, Nat.reduceAdd, decide_true, decide_false, Bool.not_true, Bool.not_false, true_and, and_true, List.map_cons, List.map_nil, List.nil_append, List.cons_append, List.append_nil, Option.map_some, Option.bind_some, List.getElem?_cons_zero, List.getElem?_cons_succ, Bool.false_eq_true, not_true_eq_false, not_false_eq_true, List.contains_cons, List.contains_nil, Nat.reduceBEq, Bool.true_or, Bool.false_or, Bool.or_true, List.set_cons_zero, List.set_cons_succ, List.length_cons, List.length_nil, isLd, Bool.true_and, Bool.false_and, Bool.and_true, Bool.and_false, show backM N.arcs fl u v a 0 = a by unfold backM; rw [if_neg (by omega)]], by simp (maxSteps := 300000) (disch := omega) only [gs, gs2, gs3, ↓reduceIte, Nat.reduceEqDiff, Nat.mul_one, Nat.add_zero, Nat.zero_add, Nat.zero_mul, Int.toNat_natCast, Int.reduceToNat, Nat.reduceMul, Nat.reduceAdd, decide_true, decide_false, Bool.not_true, Bool.not_false, true_and, and_true, List.map_cons, List.map_nil, List.nil_append, List.cons_append, List.append_nil, Option.map_some, Option.bind_some, List.getElem?_cons_zero, List.getElem?_cons_succ, Bool.false_eq_true, not_true_eq_false, not_false_eq_true, List.contains_cons, List.contains_nil, Nat.reduceBEq, Bool.true_or, Bool.false_or, Bool.or_true, List.set_cons_zero, List.set_cons_succ, List.length_cons, List.length_nil, isLd, Bool.true_and, Bool.false_and, Bool.and_true, Bool.and_false] <;> rfl, by omega, by omega, by rw [show backF N.arcs fl u v a 0 = fl by unfold backF; rw [if_neg (by omega)], put_self hf]⟩ ?_
  rintro m T G' ⟨k, e0, e1, e2, e3, e4, e10, hm, hkl, rfl⟩
  have hq' := hp (backF N.arcs fl u v a k)
  have f3 := hq'.f3
  have hsn := hq'.arcs.sn
  have p0 := hq'.arcs.r0
  have p1 := hq'.arcs.r1
  simp (maxSteps := 300000) (disch := omega) only [gs, gs2, gs3, ↓reduceIte, Nat.reduceEqDiff, Nat.mul_one, Nat.add_zero, Nat.zero_add, Nat.zero_mul, Int.toNat_natCast, Int.reduceToNat, Nat.reduceMul, Nat.reduceAdd, decide_true, decide_false, Bool.not_true, Bool.not_false, true_and, and_true, List.map_cons, List.map_nil, List.nil_append, List.cons_append, List.append_nil, Option.map_some, Option.bind_some, List.getElem?_cons_zero, List.getElem?_cons_succ, Bool.false_eq_true, not_true_eq_false, not_false_eq_true, List.contains_cons, List.contains_nil, Nat.reduceBEq, Bool.true_or, Bool.false_or, Bool.or_true, List.set_cons_zero, List.set_cons_succ, List.length_cons, List.length_nil, isLd, Bool.true_and, Bool.false_and, Bool.and_true, Bool.and_false, e0, e1, e2, e3, e4, e10, f3]
  by_cases hkk : (k : Int) < N.arcs.length
  · simp (maxSteps := 300000) (disch := omega) only [gs, gs2, gs3, ↓reduceIte, Nat.reduceEqDiff, Nat.mul_one, Nat.add_zero, Nat.zero_add, Nat.zero_mul, Int.toNat_natCast, Int.reduceToNat, Nat.reduceMul, Nat.reduceAdd, decide_true, decide_false, Bool.not_true, Bool.not_false, true_and, and_true, List.map_cons, List.map_nil, List.nil_append, List.cons_append, List.append_nil, Option.map_some, Option.bind_some, List.getElem?_cons_zero, List.getElem?_cons_succ, Bool.false_eq_true, not_true_eq_false, not_false_eq_true, List.contains_cons, List.contains_nil, Nat.reduceBEq, Bool.true_or, Bool.false_or, Bool.or_true, List.set_cons_zero, List.set_cons_succ, List.length_cons, List.length_nil, isLd, Bool.true_and, Bool.false_and, Bool.and_true, Bool.and_false, e0, e1, e2, e3, e4, e10, f3, hkk, p0, p1]
    have skip : ¬ ((N.arcs.getD k z3).1 = v ∧ (N.arcs.getD k z3).2.1 = u) → True := fun _ => trivial
    by_cases g1 : (N.arcs.getD k z3).1 = v
    · by_cases g2 : (N.arcs.getD k z3).2.1 = u
      · have hat := arcI_at hsrt (by omega) g1 g2
        have hb0 : backF N.arcs fl u v a k = fl := by unfold backF; rw [if_neg (by omega)]
        have hm0 : backM N.arcs fl u v a k = a := by unfold backM; rw [if_neg (by omega)]
        have cb := cap_bd hn hc (k := k) (by omega)
        rw [hb0] at p0 p1 f3 ⊢
        rw [hm0] at e4
        have mg := map_get fl k (by omega)
        simp (maxSteps := 300000) (disch := omega) only [gs, gs2, gs3, ↓reduceIte, Nat.reduceEqDiff, Nat.mul_one, Nat.add_zero, Nat.zero_add, Nat.zero_mul, Int.toNat_natCast, Int.reduceToNat, Nat.reduceMul, Nat.reduceAdd, decide_true, decide_false, Bool.not_true, Bool.not_false, true_and, and_true, List.map_cons, List.map_nil, List.nil_append, List.cons_append, List.append_nil, Option.map_some, Option.bind_some, List.getElem?_cons_zero, List.getElem?_cons_succ, Bool.false_eq_true, not_true_eq_false, not_false_eq_true, List.contains_cons, List.contains_nil, Nat.reduceBEq, Bool.true_or, Bool.false_or, Bool.or_true, List.set_cons_zero, List.set_cons_succ, List.length_cons, List.length_nil, isLd, Bool.true_and, Bool.false_and, Bool.and_true, Bool.and_false, eq_true g1, e0, e1, e2, e3, e4, e10, f3, hkk, p0, p1]
        simp (maxSteps := 300000) (disch := omega) only [gs, gs2, gs3, ↓reduceIte, Nat.reduceEqDiff, Nat.mul_one, Nat.add_zero, Nat.zero_add, Nat.zero_mul, Int.toNat_natCast, Int.reduceToNat, Nat.reduceMul, Nat.reduceAdd, decide_true, decide_false, Bool.not_true, Bool.not_false, true_and, and_true, List.map_cons, List.map_nil, List.nil_append, List.cons_append, List.append_nil, Option.map_some, Option.bind_some, List.getElem?_cons_zero, List.getElem?_cons_succ, Bool.false_eq_true, not_true_eq_false, not_false_eq_true, List.contains_cons, List.contains_nil, Nat.reduceBEq, Bool.true_or, Bool.false_or, Bool.or_true, List.set_cons_zero, List.set_cons_succ, List.length_cons, List.length_nil, isLd, Bool.true_and, Bool.false_and, Bool.and_true, Bool.and_false, eq_true g2, e0, e1, e2, e3, e4, e10, f3, hkk, p0, p1, mg]
        refine spec_l00Min_ok _ _ ?_
        have hmin : min a (fl.getD k 0) = if fl.getD k 0 < a then fl.getD k 0 else a := by split <;> omega
        rw [hmin]
        have hmb : 0 ≤ (if fl.getD k 0 < a then fl.getD k 0 else a) ∧ (if fl.getD k 0 < a then fl.getD k 0 else a) ≤ fl.getD k 0 ∧ (if fl.getD k 0 < a then fl.getD k 0 else a) ≤ a := by split <;> omega
        have hF : backF N.arcs fl u v a (k + 1) = fl.set k (fl.getD k 0 - if fl.getD k 0 < a then fl.getD k 0 else a) := by
          unfold backF; rw [if_pos (by omega), show (arcI N.arcs v u).toNat = k by omega]
        have hM : backM N.arcs fl u v a (k + 1) = a - if fl.getD k 0 < a then fl.getD k 0 else a := by
          unfold backM; rw [if_pos (by omega), show (arcI N.arcs v u).toNat = k by omega]
        generalize (if fl.getD k 0 < a then fl.getD k 0 else a) = mm at *
        simp (maxSteps := 300000) (disch := omega) only [gs, gs2, gs3, ↓reduceIte, Nat.reduceEqDiff, Nat.mul_one, Nat.add_zero, Nat.zero_add, Nat.zero_mul, Int.toNat_natCast, Int.reduceToNat, Nat.reduceMul, Nat.reduceAdd, decide_true, decide_false, Bool.not_true, Bool.not_false, true_and, and_true, List.map_cons, List.map_nil, List.nil_append, List.cons_append, List.append_nil, Option.map_some, Option.bind_some, List.getElem?_cons_zero, List.getElem?_cons_succ, Bool.false_eq_true, not_true_eq_false, not_false_eq_true, List.contains_cons, List.contains_nil, Nat.reduceBEq, Bool.true_or, Bool.false_or, Bool.or_true, List.set_cons_zero, List.set_cons_succ, List.length_cons, List.length_nil, isLd, Bool.true_and, Bool.false_and, Bool.and_true, Bool.and_false, e0, e1, e2, e3, e4, e10, mg]
        refine st_one (put_same _ _ _) (by simp; omega) rfl ?_
        simp (maxSteps := 300000) (disch := omega) only [gs, gs2, gs3, ↓reduceIte, Nat.reduceEqDiff, Nat.mul_one, Nat.add_zero, Nat.zero_add, Nat.zero_mul, Int.toNat_natCast, Int.reduceToNat, Nat.reduceMul, Nat.reduceAdd, decide_true, decide_false, Bool.not_true, Bool.not_false, true_and, and_true, List.map_cons, List.map_nil, List.nil_append, List.cons_append, List.append_nil, Option.map_some, Option.bind_some, List.getElem?_cons_zero, List.getElem?_cons_succ, Bool.false_eq_true, not_true_eq_false, not_false_eq_true, List.contains_cons, List.contains_nil, Nat.reduceBEq, Bool.true_or, Bool.false_or, Bool.or_true, List.set_cons_zero, List.set_cons_succ, List.length_cons, List.length_nil, isLd, Bool.true_and, Bool.false_and, Bool.and_true, Bool.and_false, e0, e1, e2, e3, e4, e10]
        exact ⟨m - 1, by omega, _, Sub.refl _, k + 1, by rw [hM], rfl, by omega, by omega, by rw [hF, map_set]⟩
      · have hs := back_skip (fl := fl) (a := a) (fun x : (N.arcs.getD k z3).1 = v ∧ (N.arcs.getD k z3).2.1 = u => g2 x.2)
        simp (maxSteps := 300000) (disch := omega) only [gs, gs2, gs3, ↓reduceIte, Nat.reduceEqDiff, Nat.mul_one, Nat.add_zero, Nat.zero_add, Nat.zero_mul, Int.toNat_natCast, Int.reduceToNat, Nat.reduceMul, Nat.reduceAdd, decide_true, decide_false, Bool.not_true, Bool.not_false, true_and, and_true, List.map_cons, List.map_nil, List.nil_append, List.cons_append, List.append_nil, Option.map_some, Option.bind_some, List.getElem?_cons_zero, List.getElem?_cons_succ, Bool.false_eq_true, not_true_eq_false, not_false_eq_true, List.contains_cons, List.contains_nil, Nat.reduceBEq, Bool.true_or, Bool.false_or, Bool.or_true, List.set_cons_zero, List.set_cons_succ, List.length_cons, List.length_nil, isLd, Bool.true_and, Bool.false_and, Bool.and_true, Bool.and_false, eq_true g1, e0, e1, e2, e3, e4, e10, f3, hkk, p0, p1]
        rw [decide_eq_false g2]
        simp (maxSteps := 300000) (disch := omega) only [gs, gs2, gs3, ↓reduceIte, Nat.reduceEqDiff, Nat.mul_one, Nat.add_zero, Nat.zero_add, Nat.zero_mul, Int.toNat_natCast, Int.reduceToNat, Nat.reduceMul, Nat.reduceAdd, decide_true, decide_false, Bool.not_true, Bool.not_false, true_and, and_true, List.map_cons, List.map_nil, List.nil_append, List.cons_append, List.append_nil, Option.map_some, Option.bind_some, List.getElem?_cons_zero, List.getElem?_cons_succ, Bool.false_eq_true, not_true_eq_false, not_false_eq_true, List.contains_cons, List.contains_nil, Nat.reduceBEq, Bool.true_or, Bool.false_or, Bool.or_true, List.set_cons_zero, List.set_cons_succ, List.length_cons, List.length_nil, isLd, Bool.true_and, Bool.false_and, Bool.and_true, Bool.and_false, e0, e1, e2, e3, e4, e10, f3, hkk, p0, p1]
        exact ⟨m - 1, by omega, _, Sub.refl _, k + 1, by rw [hs.2], rfl, by omega, by omega, by rw [hs.1]⟩
    · have hs := back_skip (fl := fl) (a := a) (fun x : (N.arcs.getD k z3).1 = v ∧ (N.arcs.getD k z3).2.1 = u => g1 x.1)
      rw [decide_eq_false g1]
      simp (maxSteps := 300000) (disch := omega) only [gs, gs2, gs3, ↓reduceIte, Nat.reduceEqDiff, Nat.mul_one, Nat.add_zero, Nat.zero_add, Nat.zero_mul, Int.toNat_natCast, Int.reduceToNat, Nat.reduceMul, Nat.reduceAdd, decide_true, decide_false, Bool.not_true, Bool.not_false, true_and, and_true, List.map_cons, List.map_nil, List.nil_append, List.cons_append, List.append_nil, Option.map_some, Option.bind_some, List.getElem?_cons_zero, List.getElem?_cons_succ, Bool.false_eq_true, not_true_eq_false, not_false_eq_true, List.contains_cons, List.contains_nil, Nat.reduceBEq, Bool.true_or, Bool.false_or, Bool.or_true, List.set_cons_zero, List.set_cons_succ, List.length_cons, List.length_nil, isLd, Bool.true_and, Bool.false_and, Bool.and_true, Bool.and_false, e0, e1, e2, e3, e4, e10, f3, hkk, p0, p1]
      exact ⟨m - 1, by omega, _, Sub.refl _, k + 1, by rw [hs.2], rfl, by omega, by omega, by rw [hs.1]⟩
  · simp (maxSteps := 300000) (disch := omega) only [gs, gs2, gs3, ↓reduceIte, Nat.reduceEqDiff, Nat.mul_one, Nat.add_zero, Nat.zero_add, Nat.zero_mul, Int.toNat_natCast, Int.reduceToNat, Nat.reduceMul, Nat.reduceAdd, decide_true, decide_false, Bool.not_true, Bool.not_false, true_and, and_true, List.map_cons, List.map_nil, List.nil_append, List.cons_append, List.append_nil, Option.map_some, Option.bind_some, List.getElem?_cons_zero, List.getElem?_cons_succ, Bool.false_eq_true, not_true_eq_false, not_false_eq_true, List.contains_cons, List.contains_nil, Nat.reduceBEq, Bool.true_or, Bool.false_or, Bool.or_true, List.set_cons_zero, List.set_cons_succ, List.length_cons, List.length_nil, isLd, Bool.true_and, Bool.false_and, Bool.and_true, Bool.and_false, e0, e1, e2, e3, e4, e10, f3, hkk]
    obtain rfl : k = N.arcs.length := by omega
    have hbd : ∀ i, i < N.arcs.length → 0 ≤ (backF N.arcs fl u v a N.arcs.length).getD i 0 ∧ (backF N.arcs fl u v a N.arcs.length).getD i 0 ≤ 1000000 := fun i hi => by
      have c1 := cap_bd hn hc hi
      unfold backF
      split
      · rename_i hx
        rw [getD_set _ _ _ _ (by omega)]
        split
        · rename_i hy
          rw [← hy]
          split <;> omega
        · omega
      · omega
    have hmb : 0 ≤ backM N.arcs fl u v a N.arcs.length ∧ backM N.arcs fl u v a N.arcs.length ≤ 2000000 := by
      unfold backM
      split
      · rename_i hx
        have c1 := cap_bd hn hc (k := (arcI N.arcs v u).toNat) (by omega)
        split <;> omega
      · exact ha
    have hbl : (backF N.arcs fl u v a N.arcs.length).length = fl.length := by unfold backF; split <;> simp
    rw [push_eq] at hk
    generalize backF N.arcs fl u v a N.arcs.length = bF at *
    generalize backM N.arcs fl u v a N.arcs.length = mo at *
    refine gLoop_intro (fun m T G' => ∃ k : Nat, T 0 = .pointer q ∧ T 1 = .slice (some ⟨bf, 0, none⟩) fl.length fl.length ∧ T 2 = .int .i64 u ∧ T 3 = .int .i64 v ∧ T 4 = .int .i64 mo ∧ T 12 = .int .i64 k ∧ m + k = N.arcs.length ∧ k ≤ N.arcs.length ∧ G' = put G bf ⟨(onF N.arcs bF u v mo k).map I64, true⟩)
      N.arcs.length ⟨0, by simp (maxSteps := 300000) (disch := omega) only [gs, gs2, gs3, ↓reduceIte, Nat.reduceEqDiff, Nat.mul_one, Nat.add_zero, Nat.zero_add, Nat.zero_mul, Int.toNat_natCast, Int.reduceToNat, Nat.reduceMul, Nat.reduceAdd, decide_true, decide_false, Bool.not_true, Bool.not_false, true_and, and_true, List.map_cons, List.map_nil, List.nil_append, List.cons_append, List.append_nil, Option.map_some, Option.bind_some, List.getElem?_cons_zero, List.getElem?_cons_succ, Bool.false_eq_true, not_true_eq_false, not_false_eq_true, List.contains_cons, List.contains_nil, Nat.reduceBEq, Bool.true_or, Bool.false_or, Bool.or_true, List.set_cons_zero, List.set_cons_succ, List.length_cons, List.length_nil, isLd, Bool.true_and, Bool.false_and, Bool.and_true, Bool.and_false, e0], by simp (maxSteps := 300000) (disch := omega) only [gs, gs2, gs3, ↓reduceIte, Nat.reduceEqDiff, Nat.mul_one, Nat.add_zero, Nat.zero_add, Nat.zero_mul, Int.toNat_natCast, Int.reduceToNat, Nat.reduceMul, Nat.reduceAdd, decide_true, decide_false, Bool.not_true, Bool.not_false, true_and, and_true, List.map_cons, List.map_nil, List.nil_append, List.cons_append, List.append_nil, Option.map_some, Option.bind_some, List.getElem?_cons_zero, List.getElem?_cons_succ, Bool.false_eq_true, not_true_eq_false, not_false_eq_true, List.contains_cons, List.contains_nil, Nat.reduceBEq, Bool.true_or, Bool.false_or, Bool.or_true, List.set_cons_zero, List.set_cons_succ, List.length_cons, List.length_nil, isLd, Bool.true_and, Bool.false_and, Bool.and_true, Bool.and_false, e1], by simp (maxSteps := 300000) (disch := omega) only [gs, gs2, gs3, ↓reduceIte, Nat.reduceEqDiff, Nat.mul_one, Nat.add_zero, Nat.zero_add, Nat.zero_mul, Int.toNat_natCast, Int.reduceToNat, Nat.reduceMul, Nat.reduceAdd, decide_true, decide_false, Bool.not_true, Bool.not_false, true_and, and_true, List.map_cons, List.map_nil, List.nil_append, List.cons_append, List.append_nil, Option.map_some, Option.bind_some, List.getElem?_cons_zero, List.getElem?_cons_succ, Bool.false_eq_true, not_true_eq_false, not_false_eq_true, List.contains_cons, List.contains_nil, Nat.reduceBEq, Bool.true_or, Bool.false_or, Bool.or_true, List.set_cons_zero, List.set_cons_succ, List.length_cons, List.length_nil, isLd, Bool.true_and, Bool.false_and, Bool.and_true, Bool.and_false, e2], by simp (maxSteps := 300000) (disch := omega) only [gs, gs2, gs3, ↓reduceIte, Nat.reduceEqDiff, Nat.mul_one, Nat.add_zero, Nat.zero_add, Nat.zero_mul, Int.toNat_natCast, Int.reduceToNat, Nat.reduceMul, Nat.reduceAdd, decide_true, decide_false, Bool.not_true, Bool.not_false, true_and, and_true, List.map_cons, List.map_nil, List.nil_append, List.cons_append, List.append_nil, Option.map_some, Option.bind_some, List.getElem?_cons_zero, List.getElem?_cons_succ, Bool.false_eq_true, not_true_eq_false, not_false_eq_true, List.contains_cons, List.contains_nil, Nat.reduceBEq, Bool.true_or, Bool.false_or, Bool.or_true, List.set_cons_zero, List.set_cons_succ, List.length_cons, List.length_nil, isLd, Bool.true_and, Bool.false_and, Bool.and_true, Bool.and_false, e3], by simp (maxSteps := 300000) (disch := omega) only [gs, gs2, gs3, ↓reduceIte, Nat.reduceEqDiff, Nat.mul_one, Nat.add_zero, Nat.zero_add, Nat.zero_mul, Int.toNat_natCast, Int.reduceToNat, Nat.reduceMul, Nat.reduceAdd, decide_true, decide_false, Bool.not_true, Bool.not_false, true_and, and_true, List.map_cons, List.map_nil, List.nil_append, List.cons_append, List.append_nil, Option.map_some, Option.bind_some, List.getElem?_cons_zero, List.getElem?_cons_succ, Bool.false_eq_true, not_true_eq_false, not_false_eq_true, List.contains_cons, List.contains_nil, Nat.reduceBEq, Bool.true_or, Bool.false_or, Bool.or_true, List.set_cons_zero, List.set_cons_succ, List.length_cons, List.length_nil, isLd, Bool.true_and, Bool.false_and, Bool.and_true, Bool.and_false, e4], by simp (maxSteps := 300000) (disch := omega) only [gs, gs2, gs3, ↓reduceIte, Nat.reduceEqDiff, Nat.mul_one, Nat.add_zero, Nat.zero_add, Nat.zero_mul, Int.toNat_natCast, Int.reduceToNat, Nat.reduceMul, Nat.reduceAdd, decide_true, decide_false, Bool.not_true, Bool.not_false, true_and, and_true, List.map_cons, List.map_nil, List.nil_append, List.cons_append, List.append_nil, Option.map_some, Option.bind_some, List.getElem?_cons_zero, List.getElem?_cons_succ, Bool.false_eq_true, not_true_eq_false, not_false_eq_true, List.contains_cons, List.contains_nil, Nat.reduceBEq, Bool.true_or, Bool.false_or, Bool.or_true, List.set_cons_zero, List.set_cons_succ, List.length_cons, List.length_nil, isLd, Bool.true_and, Bool.false_and, Bool.and_true, Bool.and_false] <;> rfl, by omega, by omega, by rw [show onF N.arcs bF u v mo 0 = bF by unfold onF; rw [if_neg (by omega)]]⟩ ?_
    rintro m T G' ⟨k, e0, e1, e2, e3, e4, e12, hm, hkl, rfl⟩
    have hq' := hp (onF N.arcs bF u v mo k)
    have f3 := hq'.f3
    have hsn := hq'.arcs.sn
    have p0 := hq'.arcs.r0
    have p1 := hq'.arcs.r1
    simp (maxSteps := 300000) (disch := omega) only [gs, gs2, gs3, ↓reduceIte, Nat.reduceEqDiff, Nat.mul_one, Nat.add_zero, Nat.zero_add, Nat.zero_mul, Int.toNat_natCast, Int.reduceToNat, Nat.reduceMul, Nat.reduceAdd, decide_true, decide_false, Bool.not_true, Bool.not_false, true_and, and_true, List.map_cons, List.map_nil, List.nil_append, List.cons_append, List.append_nil, Option.map_some, Option.bind_some, List.getElem?_cons_zero, List.getElem?_cons_succ, Bool.false_eq_true, not_true_eq_false, not_false_eq_true, List.contains_cons, List.contains_nil, Nat.reduceBEq, Bool.true_or, Bool.false_or, Bool.or_true, List.set_cons_zero, List.set_cons_succ, List.length_cons, List.length_nil, isLd, Bool.true_and, Bool.false_and, Bool.and_true, Bool.and_false, e0, e1, e2, e3, e4, e12, f3]
    by_cases hkk : (k : Int) < N.arcs.length
    · simp (maxSteps := 300000) (disch := omega) only [gs, gs2, gs3, ↓reduceIte, Nat.reduceEqDiff, Nat.mul_one, Nat.add_zero, Nat.zero_add, Nat.zero_mul, Int.toNat_natCast, Int.reduceToNat, Nat.reduceMul, Nat.reduceAdd, decide_true, decide_false, Bool.not_true, Bool.not_false, true_and, and_true, List.map_cons, List.map_nil, List.nil_append, List.cons_append, List.append_nil, Option.map_some, Option.bind_some, List.getElem?_cons_zero, List.getElem?_cons_succ, Bool.false_eq_true, not_true_eq_false, not_false_eq_true, List.contains_cons, List.contains_nil, Nat.reduceBEq, Bool.true_or, Bool.false_or, Bool.or_true, List.set_cons_zero, List.set_cons_succ, List.length_cons, List.length_nil, isLd, Bool.true_and, Bool.false_and, Bool.and_true, Bool.and_false, e0, e1, e2, e3, e4, e12, f3, hkk, p0, p1]
      by_cases g1 : (N.arcs.getD k z3).1 = u
      · by_cases g2 : (N.arcs.getD k z3).2.1 = v
        · have hat := arcI_at hsrt (by omega) g1 g2
          have hb0 : onF N.arcs bF u v mo k = bF := by unfold onF; rw [if_neg (by omega)]
          have cb := hbd k (by omega)
          rw [hb0] at p0 p1 f3 ⊢
          have mg := map_get bF k (by omega)
          have hF : onF N.arcs bF u v mo (k + 1) = bF.set k (bF.getD k 0 + mo) := by
            unfold onF; rw [if_pos (by omega), show (arcI N.arcs u v).toNat = k by omega]
          simp (maxSteps := 300000) (disch := omega) only [gs, gs2, gs3, ↓reduceIte, Nat.reduceEqDiff, Nat.mul_one, Nat.add_zero, Nat.zero_add, Nat.zero_mul, Int.toNat_natCast, Int.reduceToNat, Nat.reduceMul, Nat.reduceAdd, decide_true, decide_false, Bool.not_true, Bool.not_false, true_and, and_true, List.map_cons, List.map_nil, List.nil_append, List.cons_append, List.append_nil, Option.map_some, Option.bind_some, List.getElem?_cons_zero, List.getElem?_cons_succ, Bool.false_eq_true, not_true_eq_false, not_false_eq_true, List.contains_cons, List.contains_nil, Nat.reduceBEq, Bool.true_or, Bool.false_or, Bool.or_true, List.set_cons_zero, List.set_cons_succ, List.length_cons, List.length_nil, isLd, Bool.true_and, Bool.false_and, Bool.and_true, Bool.and_false, eq_true g1, e0, e1, e2, e3, e4, e12, f3, hkk, p0, p1]
          simp (maxSteps := 300000) (disch := omega) only [gs, gs2, gs3, ↓reduceIte, Nat.reduceEqDiff, Nat.mul_one, Nat.add_zero, Nat.zero_add, Nat.zero_mul, Int.toNat_natCast, Int.reduceToNat, Nat.reduceMul, Nat.reduceAdd, decide_true, decide_false, Bool.not_true, Bool.not_false, true_and, and_true, List.map_cons, List.map_nil, List.nil_append, List.cons_append, List.append_nil, Option.map_some, Option.bind_some, List.getElem?_cons_zero, List.getElem?_cons_succ, Bool.false_eq_true, not_true_eq_false, not_false_eq_true, List.contains_cons, List.contains_nil, Nat.reduceBEq, Bool.true_or, Bool.false_or, Bool.or_true, List.set_cons_zero, List.set_cons_succ, List.length_cons, List.length_nil, isLd, Bool.true_and, Bool.false_and, Bool.and_true, Bool.and_false, eq_true g2, e0, e1, e2, e3, e4, e12, f3, hkk, p0, p1, mg]
          refine st_one (put_same _ _ _) (by simp; omega) rfl ?_
          simp (maxSteps := 300000) (disch := omega) only [gs, gs2, gs3, ↓reduceIte, Nat.reduceEqDiff, Nat.mul_one, Nat.add_zero, Nat.zero_add, Nat.zero_mul, Int.toNat_natCast, Int.reduceToNat, Nat.reduceMul, Nat.reduceAdd, decide_true, decide_false, Bool.not_true, Bool.not_false, true_and, and_true, List.map_cons, List.map_nil, List.nil_append, List.cons_append, List.append_nil, Option.map_some, Option.bind_some, List.getElem?_cons_zero, List.getElem?_cons_succ, Bool.false_eq_true, not_true_eq_false, not_false_eq_true, List.contains_cons, List.contains_nil, Nat.reduceBEq, Bool.true_or, Bool.false_or, Bool.or_true, List.set_cons_zero, List.set_cons_succ, List.length_cons, List.length_nil, isLd, Bool.true_and, Bool.false_and, Bool.and_true, Bool.and_false, e0, e1, e2, e3, e4, e12]
          exact ⟨m - 1, by omega, _, Sub.refl _, k + 1, rfl, by omega, by omega, by rw [hF, map_set]⟩
        · have hs := on_skip (fl := bF) (a := mo) (fun x : (N.arcs.getD k z3).1 = u ∧ (N.arcs.getD k z3).2.1 = v => g2 x.2)
          simp (maxSteps := 300000) (disch := omega) only [gs, gs2, gs3, ↓reduceIte, Nat.reduceEqDiff, Nat.mul_one, Nat.add_zero, Nat.zero_add, Nat.zero_mul, Int.toNat_natCast, Int.reduceToNat, Nat.reduceMul, Nat.reduceAdd, decide_true, decide_false, Bool.not_true, Bool.not_false, true_and, and_true, List.map_cons, List.map_nil, List.nil_append, List.cons_append, List.append_nil, Option.map_some, Option.bind_some, List.getElem?_cons_zero, List.getElem?_cons_succ, Bool.false_eq_true, not_true_eq_false, not_false_eq_true, List.contains_cons, List.contains_nil, Nat.reduceBEq, Bool.true_or, Bool.false_or, Bool.or_true, List.set_cons_zero, List.set_cons_succ, List.length_cons, List.length_nil, isLd, Bool.true_and, Bool.false_and, Bool.and_true, Bool.and_false, eq_true g1, e0, e1, e2, e3, e4, e12, f3, hkk, p0, p1]
          rw [decide_eq_false g2]
          simp (maxSteps := 300000) (disch := omega) only [gs, gs2, gs3, ↓reduceIte, Nat.reduceEqDiff, Nat.mul_one, Nat.add_zero, Nat.zero_add, Nat.zero_mul, Int.toNat_natCast, Int.reduceToNat, Nat.reduceMul, Nat.reduceAdd, decide_true, decide_false, Bool.not_true, Bool.not_false, true_and, and_true, List.map_cons, List.map_nil, List.nil_append, List.cons_append, List.append_nil, Option.map_some, Option.bind_some, List.getElem?_cons_zero, List.getElem?_cons_succ, Bool.false_eq_true, not_true_eq_false, not_false_eq_true, List.contains_cons, List.contains_nil, Nat.reduceBEq, Bool.true_or, Bool.false_or, Bool.or_true, List.set_cons_zero, List.set_cons_succ, List.length_cons, List.length_nil, isLd, Bool.true_and, Bool.false_and, Bool.and_true, Bool.and_false, e0, e1, e2, e3, e4, e12, f3, hkk, p0, p1]
          exact ⟨m - 1, by omega, _, Sub.refl _, k + 1, rfl, by omega, by omega, by rw [hs]⟩
      · have hs := on_skip (fl := bF) (a := mo) (fun x : (N.arcs.getD k z3).1 = u ∧ (N.arcs.getD k z3).2.1 = v => g1 x.1)
        rw [decide_eq_false g1]
        simp (maxSteps := 300000) (disch := omega) only [gs, gs2, gs3, ↓reduceIte, Nat.reduceEqDiff, Nat.mul_one, Nat.add_zero, Nat.zero_add, Nat.zero_mul, Int.toNat_natCast, Int.reduceToNat, Nat.reduceMul, Nat.reduceAdd, decide_true, decide_false, Bool.not_true, Bool.not_false, true_and, and_true, List.map_cons, List.map_nil, List.nil_append, List.cons_append, List.append_nil, Option.map_some, Option.bind_some, List.getElem?_cons_zero, List.getElem?_cons_succ, Bool.false_eq_true, not_true_eq_false, not_false_eq_true, List.contains_cons, List.contains_nil, Nat.reduceBEq, Bool.true_or, Bool.false_or, Bool.or_true, List.set_cons_zero, List.set_cons_succ, List.length_cons, List.length_nil, isLd, Bool.true_and, Bool.false_and, Bool.and_true, Bool.and_false, e0, e1, e2, e3, e4, e12, f3, hkk, p0, p1]
        exact ⟨m - 1, by omega, _, Sub.refl _, k + 1, rfl, by omega, by omega, by rw [hs]⟩
    · simp (maxSteps := 300000) (disch := omega) only [gs, gs2, gs3, ↓reduceIte, Nat.reduceEqDiff, Nat.mul_one, Nat.add_zero, Nat.zero_add, Nat.zero_mul, Int.toNat_natCast, Int.reduceToNat, Nat.reduceMul, Nat.reduceAdd, decide_true, decide_false, Bool.not_true, Bool.not_false, true_and, and_true, List.map_cons, List.map_nil, List.nil_append, List.cons_append, List.append_nil, Option.map_some, Option.bind_some, List.getElem?_cons_zero, List.getElem?_cons_succ, Bool.false_eq_true, not_true_eq_false, not_false_eq_true, List.contains_cons, List.contains_nil, Nat.reduceBEq, Bool.true_or, Bool.false_or, Bool.or_true, List.set_cons_zero, List.set_cons_succ, List.length_cons, List.length_nil, isLd, Bool.true_and, Bool.false_and, Bool.and_true, Bool.and_false, e0, e1, e2, e3, e4, e12, f3, hkk]
      obtain rfl : k = N.arcs.length := by omega
      exact hk _
open Classical in
/-- what the first k arcs carry out of a set. -/
noncomputable def capK (es : List T3) (xs : List Int) : Nat → Int
  | 0 => 0
  | k + 1 => capK es xs k + (if (es.getD k z3).1 ∈ xs ∧ ¬ (es.getD k z3).2.1 ∈ xs then (es.getD k z3).2.2 else 0)
/-- the numbers below n. -/
def iota (n : Nat) : List Int := (List.range n).map fun i : Nat => (i : Int)
theorem iota_len (n : Nat) : (iota n).length = n := by simp [iota]
theorem iota_succ (n : Nat) : iota (n + 1) = iota n ++ [(n : Int)] := by simp [iota, List.range_succ]
theorem New.cast {G G' : GH} {A : Option Addr} {c sz n : Nat} {cs cs' : List Value} (h : New G G' A c cs sz n) (e : cs = cs') {n' : Nat} (en : n = n') : New G G' A c cs' sz n' := e ▸ en ▸ h
theorem impl_firstChoice_ok {G : GH} {m : Int} (hm : 0 ≤ m ∧ m < 2 ^ 30) {K : Value → GH → Prop} (hk : ∀ G' A c, New G G' A c ((iota m.toNat).map I64) 1 m.toNat → K (.slice A m.toNat c) G') : GC Try.prog 128 [.int .i64 m] G K := by
  refine c_impl_firstChoice_i (by simp) ?_
  simp (maxSteps := 300000) (disch := omega) only [gs, gs2, gs3, ↓reduceIte, Nat.reduceEqDiff, Nat.mul_one, Nat.add_zero, Nat.zero_add, Nat.zero_mul, Int.toNat_natCast, Int.reduceToNat, Nat.reduceMul, Nat.reduceAdd, decide_true, decide_false, Bool.not_true, Bool.not_false, true_and, and_true, List.map_cons, List.map_nil, List.nil_append, List.cons_append, List.append_nil, Option.map_some, Option.bind_some, List.getElem?_cons_zero, List.getElem?_cons_succ, Bool.false_eq_true, not_true_eq_false, not_false_eq_true, List.contains_cons, List.contains_nil, Nat.reduceBEq, Bool.true_or, Bool.false_or, Bool.or_true, List.set_cons_zero, List.set_cons_succ, List.length_cons, List.length_nil, isLd, Bool.true_and, Bool.false_and, Bool.and_true, Bool.and_false]
  refine gLoop_intro (fun r T G' => ∃ (k : Nat) (A : Option Addr) (c : Nat), T 3 = .slice A k c ∧ T 5 = .int .i64 m ∧ T 6 = .int .i64 k ∧ r + k = m.toNat ∧ k ≤ m.toNat ∧ New G G' A c ((iota k).map I64) 1 k)
    m.toNat ⟨0, none, 0, by simp (maxSteps := 300000) (disch := omega) only [gs, gs2, gs3, ↓reduceIte, Nat.reduceEqDiff, Nat.mul_one, Nat.add_zero, Nat.zero_add, Nat.zero_mul, Int.toNat_natCast, Int.reduceToNat, Nat.reduceMul, Nat.reduceAdd, decide_true, decide_false, Bool.not_true, Bool.not_false, true_and, and_true, List.map_cons, List.map_nil, List.nil_append, List.cons_append, List.append_nil, Option.map_some, Option.bind_some, List.getElem?_cons_zero, List.getElem?_cons_succ, Bool.false_eq_true, not_true_eq_false, not_false_eq_true, List.contains_cons, List.contains_nil, Nat.reduceBEq, Bool.true_or, Bool.false_or, Bool.or_true, List.set_cons_zero, List.set_cons_succ, List.length_cons, List.length_nil, isLd, Bool.true_and, Bool.false_and, Bool.and_true, Bool.and_false], by simp (maxSteps := 300000) (disch := omega) only [gs, gs2, gs3, ↓reduceIte, Nat.reduceEqDiff, Nat.mul_one, Nat.add_zero, Nat.zero_add, Nat.zero_mul, Int.toNat_natCast, Int.reduceToNat, Nat.reduceMul, Nat.reduceAdd, decide_true, decide_false, Bool.not_true, Bool.not_false, true_and, and_true, List.map_cons, List.map_nil, List.nil_append, List.cons_append, List.append_nil, Option.map_some, Option.bind_some, List.getElem?_cons_zero, List.getElem?_cons_succ, Bool.false_eq_true, not_true_eq_false, not_false_eq_true, List.contains_cons, List.contains_nil, Nat.reduceBEq, Bool.true_or, Bool.false_or, Bool.or_true, List.set_cons_zero, List.set_cons_succ, List.length_cons, List.length_nil, isLd, Bool.true_and, Bool.false_and, Bool.and_true, Bool.and_false], by simp (maxSteps := 300000) (disch := omega) only [gs, gs2, gs3, ↓reduceIte, Nat.reduceEqDiff, Nat.mul_one, Nat.add_zero, Nat.zero_add, Nat.zero_mul, Int.toNat_natCast, Int.reduceToNat, Nat.reduceMul, Nat.reduceAdd, decide_true, decide_false, Bool.not_true, Bool.not_false, true_and, and_true, List.map_cons, List.map_nil, List.nil_append, List.cons_append, List.append_nil, Option.map_some, Option.bind_some, List.getElem?_cons_zero, List.getElem?_cons_succ, Bool.false_eq_true, not_true_eq_false, not_false_eq_true, List.contains_cons, List.contains_nil, Nat.reduceBEq, Bool.true_or, Bool.false_or, Bool.or_true, List.set_cons_zero, List.set_cons_succ, List.length_cons, List.length_nil, isLd, Bool.true_and, Bool.false_and, Bool.and_true, Bool.and_false] <;> rfl, by omega, by omega, New.nil _ _⟩ ?_
  rintro r T G' ⟨k, A, c, e3, e5, e6, hr, hkm, hN⟩
  simp (maxSteps := 300000) (disch := omega) only [gs, gs2, gs3, ↓reduceIte, Nat.reduceEqDiff, Nat.mul_one, Nat.add_zero, Nat.zero_add, Nat.zero_mul, Int.toNat_natCast, Int.reduceToNat, Nat.reduceMul, Nat.reduceAdd, decide_true, decide_false, Bool.not_true, Bool.not_false, true_and, and_true, List.map_cons, List.map_nil, List.nil_append, List.cons_append, List.append_nil, Option.map_some, Option.bind_some, List.getElem?_cons_zero, List.getElem?_cons_succ, Bool.false_eq_true, not_true_eq_false, not_false_eq_true, List.contains_cons, List.contains_nil, Nat.reduceBEq, Bool.true_or, Bool.false_or, Bool.or_true, List.set_cons_zero, List.set_cons_succ, List.length_cons, List.length_nil, isLd, Bool.true_and, Bool.false_and, Bool.and_true, Bool.and_false, e3, e5, e6]
  by_cases hkk : (k : Int) < m
  · simp (maxSteps := 300000) (disch := omega) only [gs, gs2, gs3, ↓reduceIte, Nat.reduceEqDiff, Nat.mul_one, Nat.add_zero, Nat.zero_add, Nat.zero_mul, Int.toNat_natCast, Int.reduceToNat, Nat.reduceMul, Nat.reduceAdd, decide_true, decide_false, Bool.not_true, Bool.not_false, true_and, and_true, List.map_cons, List.map_nil, List.nil_append, List.cons_append, List.append_nil, Option.map_some, Option.bind_some, List.getElem?_cons_zero, List.getElem?_cons_succ, Bool.false_eq_true, not_true_eq_false, not_false_eq_true, List.contains_cons, List.contains_nil, Nat.reduceBEq, Bool.true_or, Bool.false_or, Bool.or_true, List.set_cons_zero, List.set_cons_succ, List.length_cons, List.length_nil, isLd, Bool.true_and, Bool.false_and, Bool.and_true, Bool.and_false, e3, e5, e6, hkk, gBs]
    refine ⟨by intro v hv; simp at hv; subst hv; rfl, fun b hb => ?_⟩
    refine ap_new hN (Sub.put hb _) (cells_one [.int .i64 (k : Int)] true) (by rfl) (by intro v hv; simp at hv; subst hv; rfl) rfl (by omega) (by omega) (by omega) fun G'' A' c' hN' => ?_
    simp (maxSteps := 300000) (disch := omega) only [gs, gs2, gs3, ↓reduceIte, Nat.reduceEqDiff, Nat.mul_one, Nat.add_zero, Nat.zero_add, Nat.zero_mul, Int.toNat_natCast, Int.reduceToNat, Nat.reduceMul, Nat.reduceAdd, decide_true, decide_false, Bool.not_true, Bool.not_false, true_and, and_true, List.map_cons, List.map_nil, List.nil_append, List.cons_append, List.append_nil, Option.map_some, Option.bind_some, List.getElem?_cons_zero, List.getElem?_cons_succ, Bool.false_eq_true, not_true_eq_false, not_false_eq_true, List.contains_cons, List.contains_nil, Nat.reduceBEq, Bool.true_or, Bool.false_or, Bool.or_true, List.set_cons_zero, List.set_cons_succ, List.length_cons, List.length_nil, isLd, Bool.true_and, Bool.false_and, Bool.and_true, Bool.and_false, e3, e5, e6]
    exact ⟨r - 1, by omega, _, Sub.refl _, k + 1, A', c', rfl, rfl, by omega, by omega, hN'.cast (by simp [iota_succ, I64]) rfl⟩
  · simp (maxSteps := 300000) (disch := omega) only [gs, gs2, gs3, ↓reduceIte, Nat.reduceEqDiff, Nat.mul_one, Nat.add_zero, Nat.zero_add, Nat.zero_mul, Int.toNat_natCast, Int.reduceToNat, Nat.reduceMul, Nat.reduceAdd, decide_true, decide_false, Bool.not_true, Bool.not_false, true_and, and_true, List.map_cons, List.map_nil, List.nil_append, List.cons_append, List.append_nil, Option.map_some, Option.bind_some, List.getElem?_cons_zero, List.getElem?_cons_succ, Bool.false_eq_true, not_true_eq_false, not_false_eq_true, List.contains_cons, List.contains_nil, Nat.reduceBEq, Bool.true_or, Bool.false_or, Bool.or_true, List.set_cons_zero, List.set_cons_succ, List.length_cons, List.length_nil, isLd, Bool.true_and, Bool.false_and, Bool.and_true, Bool.and_false, e3, e5, e6, hkk]
    rw [show k = m.toNat by omega] at hN ⊢
    exact hk _ _ _ hN
/-- the class of a node after k arcs, as the reference keeps it. -/
def sP (es : List T3) : Nat → Int → Int
  | 0, v => v
  | k + 1, v => if sP es k v = sP es k (es.getD k z3).2.1 then sP es k (es.getD k z3).1 else sP es k v
def sR (es : List T3) : Nat → Int
  | 0 => 0
  | k + 1 => sR es k + (if sP es k (es.getD k z3).1 = sP es k (es.getD k z3).2.1 then 1 else 0)
theorem sR_bound (es : List T3) : ∀ k : Nat, 0 ≤ sR es k ∧ sR es k ≤ k
  | 0 => by simp [sR]
  | k + 1 => by
    have := sR_bound es k
    unfold sR
    split <;> omega
theorem range_app_get {α : Type} {n : Nat} {f : Nat → α} {rest : List α} {i : Nat} (h : i < n) : ((List.range n).map f ++ rest)[i]? = some (f i) := by
  rw [List.getElem?_append_left (by simpa using h), range_get _ _ _ h]
theorem range_app_set {α : Type} {n : Nat} {f : Nat → α} {rest : List α} {i : Nat} {x : α} (h : i < n) : ((List.range n).map f ++ rest).set i x = (List.range n).map (fun v => if v = i then x else f v) ++ rest := by
  rw [List.set_append_left _ _ (by simpa using h), range_set]
theorem iota_range (n : Nat) : (iota n).map I64 = (List.range n).map fun v : Nat => I64 v := by simp [iota, Function.comp_def]
theorem gLoop_drop {F : Cont → (Nat → Value) → GH → Prop} {Q : Cont} {T : Nat → Value} {G G'' : GH} (s : Sub G'' G) (I : Nat → (Nat → Value) → GH → Prop) (m : Nat) (h0 : I m T G'') (h : ∀ m T G, I m T G → F (LoopK I m Q) T G) : gLoop F Q T G := ⟨I, m, ⟨G'', s, h0⟩, h⟩
/-- the class of a node after k arcs, as the program keeps it. -/
def iP (es : List T3) : Nat → Int → Int
  | 0, v => v
  | k + 1, v => if iP es k v = (if iP es k (es.getD k z3).1 < iP es k (es.getD k z3).2.1 then iP es k (es.getD k z3).2.1 else iP es k (es.getD k z3).1)
    then (if iP es k (es.getD k z3).2.1 < iP es k (es.getD k z3).1 then iP es k (es.getD k z3).2.1 else iP es k (es.getD k z3).1) else iP es k v
def iR (es : List T3) : Nat → Int
  | 0 => 0
  | k + 1 => iR es k + (if iP es k (es.getD k z3).1 = iP es k (es.getD k z3).2.1 then 1 else 0)
theorem merge_iff {p : Int → Int} {f t a b : Int} (hab : (a = p f ∧ b = p t) ∨ (a = p t ∧ b = p f)) (u v : Int) :
    ((if p u = b then a else p u) = (if p v = b then a else p v)) ↔ (p u = p v ∨ ((p u = p f ∨ p u = p t) ∧ (p v = p f ∨ p v = p t))) := by
  split <;> split <;> omega
theorem class_eq (es : List T3) : ∀ (k : Nat) (u v : Int), sP es k u = sP es k v ↔ iP es k u = iP es k v
  | 0, u, v => by simp [sP, iP]
  | k + 1, u, v => by
    have ih := class_eq es k
    rw [sP, sP, iP, iP, merge_iff (f := (es.getD k z3).1) (t := (es.getD k z3).2.1) (.inl ⟨rfl, rfl⟩),
      merge_iff (p := iP es k) (f := (es.getD k z3).1) (t := (es.getD k z3).2.1) (by split <;> split <;> omega)]
    rw [ih, ih, ih, ih, ih]
theorem rank_eq (es : List T3) : ∀ k : Nat, sR es k = iR es k
  | 0 => rfl
  | k + 1 => by
    rw [sR, iR, rank_eq es k]
    by_cases h : sP es k (es.getD k z3).1 = sP es k (es.getD k z3).2.1
    · rw [if_pos h, if_pos ((class_eq es k _ _).1 h)]
    · rw [if_neg h, if_neg (fun x => h ((class_eq es k _ _).2 x))]
open Classical in
noncomputable def rankV (N : Net) : Int × Int := if NetOk N then (sR N.arcs N.arcs.length, 0) else (0, 1)
theorem impl_LoopRank_ok {G : GH} {N : Net} {A : Option Addr} {c : Nat} (h : T3S G A c N.arcs) (hr : R64 N.n) (hl : N.arcs.length < 2 ^ 40) {K : Value → GH → Prop}
    (hk : K (pairV (rankV N)) G) : GC Try.prog 98 [netV N A c] G K := by
  refine GC_drop (c_impl_LoopRank_i (by simp) ?_)
  unfold netV netC
  simp (maxSteps := 300000) (disch := omega) only [gs, gs2, gs3, ↓reduceIte, Nat.reduceEqDiff, Nat.mul_one, Nat.add_zero, Nat.zero_add, Nat.zero_mul, Int.toNat_natCast, Int.reduceToNat, Nat.reduceMul, Nat.reduceAdd, decide_true, decide_false, Bool.not_true, Bool.not_false, true_and, and_true, List.map_cons, List.map_nil, List.nil_append, List.cons_append, List.append_nil, Option.map_some, Option.bind_some, List.getElem?_cons_zero, List.getElem?_cons_succ, Bool.false_eq_true, not_true_eq_false, not_false_eq_true, List.contains_cons, List.contains_nil, Nat.reduceBEq, Bool.true_or, Bool.false_or, Bool.or_true, List.set_cons_zero, List.set_cons_succ, List.length_cons, List.length_nil, isLd, Bool.true_and, Bool.false_and, Bool.and_true, Bool.and_false]
  intro b1 hb1
  simp (maxSteps := 300000) (disch := omega) only [gs, gs2, gs3, ↓reduceIte, Nat.reduceEqDiff, Nat.mul_one, Nat.add_zero, Nat.zero_add, Nat.zero_mul, Int.toNat_natCast, Int.reduceToNat, Nat.reduceMul, Nat.reduceAdd, decide_true, decide_false, Bool.not_true, Bool.not_false, true_and, and_true, List.map_cons, List.map_nil, List.nil_append, List.cons_append, List.append_nil, Option.map_some, Option.bind_some, List.getElem?_cons_zero, List.getElem?_cons_succ, Bool.false_eq_true, not_true_eq_false, not_false_eq_true, List.contains_cons, List.contains_nil, Nat.reduceBEq, Bool.true_or, Bool.false_or, Bool.or_true, List.set_cons_zero, List.set_cons_succ, List.length_cons, List.length_nil, isLd, Bool.true_and, Bool.false_and, Bool.and_true, Bool.and_false]
  have s1 := Sub.put hb1 ⟨[.int .i64 N.n, .int .i64 N.s, .int .i64 N.t, .slice A N.arcs.length c], true⟩
  have f0 : rd (put G b1 ⟨[.int .i64 N.n, .int .i64 N.s, .int .i64 N.t, .slice A N.arcs.length c], true⟩) (some ⟨b1, 0, none⟩) = some (.int .i64 N.n) := rd_box _ _ _ 0 _ rfl
  have f3 : rd (put G b1 ⟨[.int .i64 N.n, .int .i64 N.s, .int .i64 N.t, .slice A N.arcs.length c], true⟩) (some ⟨b1, 3, none⟩) = some (.slice A N.arcs.length c) := rd_box _ _ _ 3 _ rfl
  revert s1 f0 f3
  generalize put G b1 ⟨[.int .i64 N.n, .int .i64 N.s, .int .i64 N.t, .slice A N.arcs.length c], true⟩ = G1
  intro s1 f0 f3
  have hP := h.sub s1
  refine impl_ValidNetwork_ok (N := N) hP hr hl fun b hb => ?_
  unfold pairV rankV at hk
  cases b
  · simp (maxSteps := 300000) (disch := omega) only [gs, gs2, gs3, ↓reduceIte, Nat.reduceEqDiff, Nat.mul_one, Nat.add_zero, Nat.zero_add, Nat.zero_mul, Int.toNat_natCast, Int.reduceToNat, Nat.reduceMul, Nat.reduceAdd, decide_true, decide_false, Bool.not_true, Bool.not_false, true_and, and_true, List.map_cons, List.map_nil, List.nil_append, List.cons_append, List.append_nil, Option.map_some, Option.bind_some, List.getElem?_cons_zero, List.getElem?_cons_succ, Bool.false_eq_true, not_true_eq_false, not_false_eq_true, List.contains_cons, List.contains_nil, Nat.reduceBEq, Bool.true_or, Bool.false_or, Bool.or_true, List.set_cons_zero, List.set_cons_succ, List.length_cons, List.length_nil, isLd, Bool.true_and, Bool.false_and, Bool.and_true, Bool.and_false]
    rw [if_neg (by simpa using hb)] at hk
    exact ⟨G, s1, hk⟩
  have hn := hb.1 rfl
  rw [if_pos hn] at hk
  have hn1 := hn.1
  have hn5 := hn.2.2.2.2.2
  simp (maxSteps := 300000) (disch := omega) only [gs, gs2, gs3, ↓reduceIte, Nat.reduceEqDiff, Nat.mul_one, Nat.add_zero, Nat.zero_add, Nat.zero_mul, Int.toNat_natCast, Int.reduceToNat, Nat.reduceMul, Nat.reduceAdd, decide_true, decide_false, Bool.not_true, Bool.not_false, true_and, and_true, List.map_cons, List.map_nil, List.nil_append, List.cons_append, List.append_nil, Option.map_some, Option.bind_some, List.getElem?_cons_zero, List.getElem?_cons_succ, Bool.false_eq_true, not_true_eq_false, not_false_eq_true, List.contains_cons, List.contains_nil, Nat.reduceBEq, Bool.true_or, Bool.false_or, Bool.or_true, List.set_cons_zero, List.set_cons_succ, List.length_cons, List.length_nil, isLd, Bool.true_and, Bool.false_and, Bool.and_true, Bool.and_false, f0]
  refine impl_firstChoice_ok (by omega) fun G2 A' c' hN => ?_
  have f3' := rd_sub hN.sub f3
  simp (maxSteps := 300000) (disch := omega) only [gs, gs2, gs3, ↓reduceIte, Nat.reduceEqDiff, Nat.mul_one, Nat.add_zero, Nat.zero_add, Nat.zero_mul, Int.toNat_natCast, Int.reduceToNat, Nat.reduceMul, Nat.reduceAdd, decide_true, decide_false, Bool.not_true, Bool.not_false, true_and, and_true, List.map_cons, List.map_nil, List.nil_append, List.cons_append, List.append_nil, Option.map_some, Option.bind_some, List.getElem?_cons_zero, List.getElem?_cons_succ, Bool.false_eq_true, not_true_eq_false, not_false_eq_true, List.contains_cons, List.contains_nil, Nat.reduceBEq, Bool.true_or, Bool.false_or, Bool.or_true, List.set_cons_zero, List.set_cons_succ, List.length_cons, List.length_nil, isLd, Bool.true_and, Bool.false_and, Bool.and_true, Bool.and_false, f3']
  rw [iota_range] at hN
  rcases hN with ⟨_, _, hz, _, _⟩ | ⟨b, rest, rfl, hbn, rfl, _, hcl, hcap⟩
  · omega
  have hp : ∀ f : Nat → Int, T3S (put G1 b ⟨(List.range N.n.toNat).map (fun v : Nat => I64 (f v)) ++ rest, true⟩) A c N.arcs := fun f => hP.sub (Sub.put hbn _)
  refine gLoop_intro (fun r T G' => ∃ k : Nat, T 4 = .slice (some ⟨b, 0, none⟩) N.n.toNat c' ∧ T 5 = .int .i64 (iR N.arcs k) ∧ T 18 = .slice A N.arcs.length c ∧ T 19 = .int .i64 N.arcs.length ∧ T 20 = .int .i64 k ∧ r + k = N.arcs.length ∧ k ≤ N.arcs.length ∧
    G' = put G1 b ⟨(List.range N.n.toNat).map (fun v : Nat => I64 (iP N.arcs k v)) ++ rest, true⟩)
    N.arcs.length ⟨0, by simp (maxSteps := 300000) (disch := omega) only [gs, gs2, gs3, ↓reduceIte, Nat.reduceEqDiff, Nat.mul_one, Nat.add_zero, Nat.zero_add, Nat.zero_mul, Int.toNat_natCast, Int.reduceToNat, Nat.reduceMul, Nat.reduceAdd, decide_true, decide_false, Bool.not_true, Bool.not_false, true_and, and_true, List.map_cons, List.map_nil, List.nil_append, List.cons_append, List.append_nil, Option.map_some, Option.bind_some, List.getElem?_cons_zero, List.getElem?_cons_succ, Bool.false_eq_true, not_true_eq_false, not_false_eq_true, List.contains_cons, List.contains_nil, Nat.reduceBEq, Bool.true_or, Bool.false_or, Bool.or_true, List.set_cons_zero, List.set_cons_succ, List.length_cons, List.length_nil, isLd, Bool.true_and, Bool.false_and, Bool.and_true, Bool.and_false], by simp (maxSteps := 300000) (disch := omega) only [gs, gs2, gs3, ↓reduceIte, Nat.reduceEqDiff, Nat.mul_one, Nat.add_zero, Nat.zero_add, Nat.zero_mul, Int.toNat_natCast, Int.reduceToNat, Nat.reduceMul, Nat.reduceAdd, decide_true, decide_false, Bool.not_true, Bool.not_false, true_and, and_true, List.map_cons, List.map_nil, List.nil_append, List.cons_append, List.append_nil, Option.map_some, Option.bind_some, List.getElem?_cons_zero, List.getElem?_cons_succ, Bool.false_eq_true, not_true_eq_false, not_false_eq_true, List.contains_cons, List.contains_nil, Nat.reduceBEq, Bool.true_or, Bool.false_or, Bool.or_true, List.set_cons_zero, List.set_cons_succ, List.length_cons, List.length_nil, isLd, Bool.true_and, Bool.false_and, Bool.and_true, Bool.and_false] <;> rfl, by simp (maxSteps := 300000) (disch := omega) only [gs, gs2, gs3, ↓reduceIte, Nat.reduceEqDiff, Nat.mul_one, Nat.add_zero, Nat.zero_add, Nat.zero_mul, Int.toNat_natCast, Int.reduceToNat, Nat.reduceMul, Nat.reduceAdd, decide_true, decide_false, Bool.not_true, Bool.not_false, true_and, and_true, List.map_cons, List.map_nil, List.nil_append, List.cons_append, List.append_nil, Option.map_some, Option.bind_some, List.getElem?_cons_zero, List.getElem?_cons_succ, Bool.false_eq_true, not_true_eq_false, not_false_eq_true, List.contains_cons, List.contains_nil, Nat.reduceBEq, Bool.true_or, Bool.false_or, Bool.or_true, List.set_cons_zero, List.set_cons_succ, List.length_cons, List.length_nil, isLd, Bool.true_and, Bool.false_and, Bool.and_true, Bool.and_false], by simp (maxSteps := 300000) (disch := omega) only [gs, gs2, gs3, ↓reduceIte, Nat.reduceEqDiff, Nat.mul_one, Nat.add_zero, Nat.zero_add, Nat.zero_mul, Int.toNat_natCast, Int.reduceToNat, Nat.reduceMul, Nat.reduceAdd, decide_true, decide_false, Bool.not_true, Bool.not_false, true_and, and_true, List.map_cons, List.map_nil, List.nil_append, List.cons_append, List.append_nil, Option.map_some, Option.bind_some, List.getElem?_cons_zero, List.getElem?_cons_succ, Bool.false_eq_true, not_true_eq_false, not_false_eq_true, List.contains_cons, List.contains_nil, Nat.reduceBEq, Bool.true_or, Bool.false_or, Bool.or_true, List.set_cons_zero, List.set_cons_succ, List.length_cons, List.length_nil, isLd, Bool.true_and, Bool.false_and, Bool.and_true, Bool.and_false], by simp (maxSteps := 300000) (disch := omega) only [gs, gs2, gs3, ↓reduceIte, Nat.reduceEqDiff, Nat.mul_one, Nat.add_zero, Nat.zero_add, Nat.zero_mul, Int.toNat_natCast, Int.reduceToNat, Nat.reduceMul, Nat.reduceAdd, decide_true, decide_false, Bool.not_true, Bool.not_false, true_and, and_true, List.map_cons, List.map_nil, List.nil_append, List.cons_append, List.append_nil, Option.map_some, Option.bind_some, List.getElem?_cons_zero, List.getElem?_cons_succ, Bool.false_eq_true, not_true_eq_false, not_false_eq_true, List.contains_cons, List.contains_nil, Nat.reduceBEq, Bool.true_or, Bool.false_or, Bool.or_true, List.set_cons_zero, List.set_cons_succ, List.length_cons, List.length_nil, isLd, Bool.true_and, Bool.false_and, Bool.and_true, Bool.and_false] <;> rfl, by omega, by omega, rfl⟩ ?_
  rintro r T G' ⟨k, e4, e5, e18, e19, e20, hr', hkl, rfl⟩
  have hq := hp fun v => iP N.arcs k v
  have p0 := hq.r0
  have p1 := hq.r1
  have p2 := hq.r2
  have hsn := hq.sn
  simp (maxSteps := 300000) (disch := omega) only [gs, gs2, gs3, ↓reduceIte, Nat.reduceEqDiff, Nat.mul_one, Nat.add_zero, Nat.zero_add, Nat.zero_mul, Int.toNat_natCast, Int.reduceToNat, Nat.reduceMul, Nat.reduceAdd, decide_true, decide_false, Bool.not_true, Bool.not_false, true_and, and_true, List.map_cons, List.map_nil, List.nil_append, List.cons_append, List.append_nil, Option.map_some, Option.bind_some, List.getElem?_cons_zero, List.getElem?_cons_succ, Bool.false_eq_true, not_true_eq_false, not_false_eq_true, List.contains_cons, List.contains_nil, Nat.reduceBEq, Bool.true_or, Bool.false_or, Bool.or_true, List.set_cons_zero, List.set_cons_succ, List.length_cons, List.length_nil, isLd, Bool.true_and, Bool.false_and, Bool.and_true, Bool.and_false, e4, e5, e18, e19, e20]
  by_cases hkl2 : (k : Int) < N.arcs.length
  · obtain ⟨⟨k1, k2⟩, ⟨k3, k4⟩, k5, _⟩ := hn.2.2.2.2.1.1 k (by omega)
    simp (maxSteps := 300000) (disch := omega) only [gs, gs2, gs3, ↓reduceIte, Nat.reduceEqDiff, Nat.mul_one, Nat.add_zero, Nat.zero_add, Nat.zero_mul, Int.toNat_natCast, Int.reduceToNat, Nat.reduceMul, Nat.reduceAdd, decide_true, decide_false, Bool.not_true, Bool.not_false, true_and, and_true, List.map_cons, List.map_nil, List.nil_append, List.cons_append, List.append_nil, Option.map_some, Option.bind_some, List.getElem?_cons_zero, List.getElem?_cons_succ, Bool.false_eq_true, not_true_eq_false, not_false_eq_true, List.contains_cons, List.contains_nil, Nat.reduceBEq, Bool.true_or, Bool.false_or, Bool.or_true, List.set_cons_zero, List.set_cons_succ, List.length_cons, List.length_nil, isLd, Bool.true_and, Bool.false_and, Bool.and_true, Bool.and_false, e4, e5, e18, e19, e20, hkl2, p0, p1, p2]
    intro b7 hb7
    have q7 := hb7
    simp only [put_none] at q7
    simp (maxSteps := 300000) (disch := omega) only [gs, gs2, gs3, ↓reduceIte, Nat.reduceEqDiff, Nat.mul_one, Nat.add_zero, Nat.zero_add, Nat.zero_mul, Int.toNat_natCast, Int.reduceToNat, Nat.reduceMul, Nat.reduceAdd, decide_true, decide_false, Bool.not_true, Bool.not_false, true_and, and_true, List.map_cons, List.map_nil, List.nil_append, List.cons_append, List.append_nil, Option.map_some, Option.bind_some, List.getElem?_cons_zero, List.getElem?_cons_succ, Bool.false_eq_true, not_true_eq_false, not_false_eq_true, List.contains_cons, List.contains_nil, Nat.reduceBEq, Bool.true_or, Bool.false_or, Bool.or_true, List.set_cons_zero, List.set_cons_succ, List.length_cons, List.length_nil, isLd, Bool.true_and, Bool.false_and, Bool.and_true, Bool.and_false, e4, e5, e18, e19, e20]
    refine st_many (vs := c3 (N.arcs.getD k z3)) rfl (put_same _ _ _) rfl (by simp) (c3_one _) ?_
    have hc : ∀ v : Int, 0 ≤ v → v < N.n → ((List.range N.n.toNat).map (fun v : Nat => I64 (iP N.arcs k v)) ++ rest)[v.toNat]? = some (.int .i64 (iP N.arcs k v)) := fun v h1 h2 => by
      rw [range_app_get (by omega)]; simp only [I64]; rw [Int.toNat_of_nonneg h1]
    have hb := sR_bound N.arcs k
    rw [rank_eq] at hb
    have s7 : Sub (put G1 b ⟨(List.range N.n.toNat).map (fun v : Nat => I64 (iP N.arcs k v)) ++ rest, true⟩) _ := Sub.put hb7 ⟨c3 (N.arcs.getD k z3), true⟩
    unfold c3 at s7 ⊢
    simp (maxSteps := 300000) (disch := omega) only [gs, gs2, gs3, ↓reduceIte, Nat.reduceEqDiff, Nat.mul_one, Nat.add_zero, Nat.zero_add, Nat.zero_mul, Int.toNat_natCast, Int.reduceToNat, Nat.reduceMul, Nat.reduceAdd, decide_true, decide_false, Bool.not_true, Bool.not_false, true_and, and_true, List.map_cons, List.map_nil, List.nil_append, List.cons_append, List.append_nil, Option.map_some, Option.bind_some, List.getElem?_cons_zero, List.getElem?_cons_succ, Bool.false_eq_true, not_true_eq_false, not_false_eq_true, List.contains_cons, List.contains_nil, Nat.reduceBEq, Bool.true_or, Bool.false_or, Bool.or_true, List.set_cons_zero, List.set_cons_succ, List.length_cons, List.length_nil, isLd, Bool.true_and, Bool.false_and, Bool.and_true, Bool.and_false, over, e4, e5, e18, e19, e20, hc]
    generalize hlo : (if iP N.arcs k (N.arcs.getD k z3).2.1 < iP N.arcs k (N.arcs.getD k z3).1 then iP N.arcs k (N.arcs.getD k z3).2.1 else iP N.arcs k (N.arcs.getD k z3).1) = lo
    generalize hhi : (if iP N.arcs k (N.arcs.getD k z3).1 < iP N.arcs k (N.arcs.getD k z3).2.1 then iP N.arcs k (N.arcs.getD k z3).2.1 else iP N.arcs k (N.arcs.getD k z3).1) = hi
    have step : ∀ v, iP N.arcs (k + 1) v = if iP N.arcs k v = hi then lo else iP N.arcs k v := fun v => by rw [iP, hlo, hhi]
    have inner : True := trivial
    by_cases hab : lo = hi
    · have SR : iR N.arcs (k + 1) = iR N.arcs k + 1 := by rw [iR, if_pos (by split at hlo <;> split at hhi <;> omega)]
      simp (maxSteps := 300000) (disch := omega) only [gs, gs2, gs3, ↓reduceIte, Nat.reduceEqDiff, Nat.mul_one, Nat.add_zero, Nat.zero_add, Nat.zero_mul, Int.toNat_natCast, Int.reduceToNat, Nat.reduceMul, Nat.reduceAdd, decide_true, decide_false, Bool.not_true, Bool.not_false, true_and, and_true, List.map_cons, List.map_nil, List.nil_append, List.cons_append, List.append_nil, Option.map_some, Option.bind_some, List.getElem?_cons_zero, List.getElem?_cons_succ, Bool.false_eq_true, not_true_eq_false, not_false_eq_true, List.contains_cons, List.contains_nil, Nat.reduceBEq, Bool.true_or, Bool.false_or, Bool.or_true, List.set_cons_zero, List.set_cons_succ, List.length_cons, List.length_nil, isLd, Bool.true_and, Bool.false_and, Bool.and_true, Bool.and_false, eq_true hab]
      simp (maxSteps := 300000) (disch := omega) only [gs, gs2, gs3, ↓reduceIte, Nat.reduceEqDiff, Nat.mul_one, Nat.add_zero, Nat.zero_add, Nat.zero_mul, Int.toNat_natCast, Int.reduceToNat, Nat.reduceMul, Nat.reduceAdd, decide_true, decide_false, Bool.not_true, Bool.not_false, true_and, and_true, List.map_cons, List.map_nil, List.nil_append, List.cons_append, List.append_nil, Option.map_some, Option.bind_some, List.getElem?_cons_zero, List.getElem?_cons_succ, Bool.false_eq_true, not_true_eq_false, not_false_eq_true, List.contains_cons, List.contains_nil, Nat.reduceBEq, Bool.true_or, Bool.false_or, Bool.or_true, List.set_cons_zero, List.set_cons_succ, List.length_cons, List.length_nil, isLd, Bool.true_and, Bool.false_and, Bool.and_true, Bool.and_false, e4, e5, e18, e19, e20]
      refine gLoop_drop s7 (fun r' T G' => ∃ j : Nat, T 4 = .slice (some ⟨b, 0, none⟩) N.n.toNat c' ∧ T 5 = .int .i64 (iR N.arcs (k + 1)) ∧ T 18 = .slice A N.arcs.length c ∧ T 19 = .int .i64 N.arcs.length ∧ T 20 = .int .i64 k ∧ T 8 = .int .i64 lo ∧ T 9 = .int .i64 hi ∧ T 52 = .int .i64 (N.n.toNat : Nat) ∧ T 53 = .int .i64 j ∧ r' + j = N.n.toNat ∧ j ≤ N.n.toNat ∧
        G' = put G1 b ⟨(List.range N.n.toNat).map (fun v : Nat => I64 (if v < j then iP N.arcs (k + 1) v else iP N.arcs k v)) ++ rest, true⟩)
        N.n.toNat ⟨0, by simp (maxSteps := 300000) (disch := omega) only [gs, gs2, gs3, ↓reduceIte, Nat.reduceEqDiff, Nat.mul_one, Nat.add_zero, Nat.zero_add, Nat.zero_mul, Int.toNat_natCast, Int.reduceToNat, Nat.reduceMul, Nat.reduceAdd, decide_true, decide_false, Bool.not_true, Bool.not_false, true_and, and_true, List.map_cons, List.map_nil, List.nil_append, List.cons_append, List.append_nil, Option.map_some, Option.bind_some, List.getElem?_cons_zero, List.getElem?_cons_succ, Bool.false_eq_true, not_true_eq_false, not_false_eq_true, List.contains_cons, List.contains_nil, Nat.reduceBEq, Bool.true_or, Bool.false_or, Bool.or_true, List.set_cons_zero, List.set_cons_succ, List.length_cons, List.length_nil, isLd, Bool.true_and, Bool.false_and, Bool.and_true, Bool.and_false, e4], by simp (maxSteps := 300000) (disch := omega) only [gs, gs2, gs3, ↓reduceIte, Nat.reduceEqDiff, Nat.mul_one, Nat.add_zero, Nat.zero_add, Nat.zero_mul, Int.toNat_natCast, Int.reduceToNat, Nat.reduceMul, Nat.reduceAdd, decide_true, decide_false, Bool.not_true, Bool.not_false, true_and, and_true, List.map_cons, List.map_nil, List.nil_append, List.cons_append, List.append_nil, Option.map_some, Option.bind_some, List.getElem?_cons_zero, List.getElem?_cons_succ, Bool.false_eq_true, not_true_eq_false, not_false_eq_true, List.contains_cons, List.contains_nil, Nat.reduceBEq, Bool.true_or, Bool.false_or, Bool.or_true, List.set_cons_zero, List.set_cons_succ, List.length_cons, List.length_nil, isLd, Bool.true_and, Bool.false_and, Bool.and_true, Bool.and_false, e5, SR], by simp (maxSteps := 300000) (disch := omega) only [gs, gs2, gs3, ↓reduceIte, Nat.reduceEqDiff, Nat.mul_one, Nat.add_zero, Nat.zero_add, Nat.zero_mul, Int.toNat_natCast, Int.reduceToNat, Nat.reduceMul, Nat.reduceAdd, decide_true, decide_false, Bool.not_true, Bool.not_false, true_and, and_true, List.map_cons, List.map_nil, List.nil_append, List.cons_append, List.append_nil, Option.map_some, Option.bind_some, List.getElem?_cons_zero, List.getElem?_cons_succ, Bool.false_eq_true, not_true_eq_false, not_false_eq_true, List.contains_cons, List.contains_nil, Nat.reduceBEq, Bool.true_or, Bool.false_or, Bool.or_true, List.set_cons_zero, List.set_cons_succ, List.length_cons, List.length_nil, isLd, Bool.true_and, Bool.false_and, Bool.and_true, Bool.and_false, e18], by simp (maxSteps := 300000) (disch := omega) only [gs, gs2, gs3, ↓reduceIte, Nat.reduceEqDiff, Nat.mul_one, Nat.add_zero, Nat.zero_add, Nat.zero_mul, Int.toNat_natCast, Int.reduceToNat, Nat.reduceMul, Nat.reduceAdd, decide_true, decide_false, Bool.not_true, Bool.not_false, true_and, and_true, List.map_cons, List.map_nil, List.nil_append, List.cons_append, List.append_nil, Option.map_some, Option.bind_some, List.getElem?_cons_zero, List.getElem?_cons_succ, Bool.false_eq_true, not_true_eq_false, not_false_eq_true, List.contains_cons, List.contains_nil, Nat.reduceBEq, Bool.true_or, Bool.false_or, Bool.or_true, List.set_cons_zero, List.set_cons_succ, List.length_cons, List.length_nil, isLd, Bool.true_and, Bool.false_and, Bool.and_true, Bool.and_false, e19], by simp (maxSteps := 300000) (disch := omega) only [gs, gs2, gs3, ↓reduceIte, Nat.reduceEqDiff, Nat.mul_one, Nat.add_zero, Nat.zero_add, Nat.zero_mul, Int.toNat_natCast, Int.reduceToNat, Nat.reduceMul, Nat.reduceAdd, decide_true, decide_false, Bool.not_true, Bool.not_false, true_and, and_true, List.map_cons, List.map_nil, List.nil_append, List.cons_append, List.append_nil, Option.map_some, Option.bind_some, List.getElem?_cons_zero, List.getElem?_cons_succ, Bool.false_eq_true, not_true_eq_false, not_false_eq_true, List.contains_cons, List.contains_nil, Nat.reduceBEq, Bool.true_or, Bool.false_or, Bool.or_true, List.set_cons_zero, List.set_cons_succ, List.length_cons, List.length_nil, isLd, Bool.true_and, Bool.false_and, Bool.and_true, Bool.and_false, e20], by simp (maxSteps := 300000) (disch := omega) only [gs, gs2, gs3, ↓reduceIte, Nat.reduceEqDiff, Nat.mul_one, Nat.add_zero, Nat.zero_add, Nat.zero_mul, Int.toNat_natCast, Int.reduceToNat, Nat.reduceMul, Nat.reduceAdd, decide_true, decide_false, Bool.not_true, Bool.not_false, true_and, and_true, List.map_cons, List.map_nil, List.nil_append, List.cons_append, List.append_nil, Option.map_some, Option.bind_some, List.getElem?_cons_zero, List.getElem?_cons_succ, Bool.false_eq_true, not_true_eq_false, not_false_eq_true, List.contains_cons, List.contains_nil, Nat.reduceBEq, Bool.true_or, Bool.false_or, Bool.or_true, List.set_cons_zero, List.set_cons_succ, List.length_cons, List.length_nil, isLd, Bool.true_and, Bool.false_and, Bool.and_true, Bool.and_false], by simp (maxSteps := 300000) (disch := omega) only [gs, gs2, gs3, ↓reduceIte, Nat.reduceEqDiff, Nat.mul_one, Nat.add_zero, Nat.zero_add, Nat.zero_mul, Int.toNat_natCast, Int.reduceToNat, Nat.reduceMul, Nat.reduceAdd, decide_true, decide_false, Bool.not_true, Bool.not_false, true_and, and_true, List.map_cons, List.map_nil, List.nil_append, List.cons_append, List.append_nil, Option.map_some, Option.bind_some, List.getElem?_cons_zero, List.getElem?_cons_succ, Bool.false_eq_true, not_true_eq_false, not_false_eq_true, List.contains_cons, List.contains_nil, Nat.reduceBEq, Bool.true_or, Bool.false_or, Bool.or_true, List.set_cons_zero, List.set_cons_succ, List.length_cons, List.length_nil, isLd, Bool.true_and, Bool.false_and, Bool.and_true, Bool.and_false], by simp (maxSteps := 300000) (disch := omega) only [gs, gs2, gs3, ↓reduceIte, Nat.reduceEqDiff, Nat.mul_one, Nat.add_zero, Nat.zero_add, Nat.zero_mul, Int.toNat_natCast, Int.reduceToNat, Nat.reduceMul, Nat.reduceAdd, decide_true, decide_false, Bool.not_true, Bool.not_false, true_and, and_true, List.map_cons, List.map_nil, List.nil_append, List.cons_append, List.append_nil, Option.map_some, Option.bind_some, List.getElem?_cons_zero, List.getElem?_cons_succ, Bool.false_eq_true, not_true_eq_false, not_false_eq_true, List.contains_cons, List.contains_nil, Nat.reduceBEq, Bool.true_or, Bool.false_or, Bool.or_true, List.set_cons_zero, List.set_cons_succ, List.length_cons, List.length_nil, isLd, Bool.true_and, Bool.false_and, Bool.and_true, Bool.and_false], by simp (maxSteps := 300000) (disch := omega) only [gs, gs2, gs3, ↓reduceIte, Nat.reduceEqDiff, Nat.mul_one, Nat.add_zero, Nat.zero_add, Nat.zero_mul, Int.toNat_natCast, Int.reduceToNat, Nat.reduceMul, Nat.reduceAdd, decide_true, decide_false, Bool.not_true, Bool.not_false, true_and, and_true, List.map_cons, List.map_nil, List.nil_append, List.cons_append, List.append_nil, Option.map_some, Option.bind_some, List.getElem?_cons_zero, List.getElem?_cons_succ, Bool.false_eq_true, not_true_eq_false, not_false_eq_true, List.contains_cons, List.contains_nil, Nat.reduceBEq, Bool.true_or, Bool.false_or, Bool.or_true, List.set_cons_zero, List.set_cons_succ, List.length_cons, List.length_nil, isLd, Bool.true_and, Bool.false_and, Bool.and_true, Bool.and_false] <;> rfl, by omega, by omega, by simp only [Nat.not_lt_zero, if_false]⟩ ?_
      rintro r' T G' ⟨j, e4, e5, e18, e19, e20, e8, e9, e52, e53, hr2, hjn, rfl⟩
      simp (maxSteps := 300000) (disch := omega) only [gs, gs2, gs3, ↓reduceIte, Nat.reduceEqDiff, Nat.mul_one, Nat.add_zero, Nat.zero_add, Nat.zero_mul, Int.toNat_natCast, Int.reduceToNat, Nat.reduceMul, Nat.reduceAdd, decide_true, decide_false, Bool.not_true, Bool.not_false, true_and, and_true, List.map_cons, List.map_nil, List.nil_append, List.cons_append, List.append_nil, Option.map_some, Option.bind_some, List.getElem?_cons_zero, List.getElem?_cons_succ, Bool.false_eq_true, not_true_eq_false, not_false_eq_true, List.contains_cons, List.contains_nil, Nat.reduceBEq, Bool.true_or, Bool.false_or, Bool.or_true, List.set_cons_zero, List.set_cons_succ, List.length_cons, List.length_nil, isLd, Bool.true_and, Bool.false_and, Bool.and_true, Bool.and_false, e4, e5, e18, e19, e20, e8, e9, e52, e53]
      by_cases hj : (j : Int) < (N.n.toNat : Nat)
      · have hc2 : ((List.range N.n.toNat).map (fun v : Nat => I64 (if v < j then iP N.arcs (k + 1) v else iP N.arcs k v)) ++ rest)[j]? = some (.int .i64 (iP N.arcs k j)) := by
          rw [range_app_get (by omega), if_neg (by omega)]; rfl
        simp (maxSteps := 300000) (disch := omega) only [gs, gs2, gs3, ↓reduceIte, Nat.reduceEqDiff, Nat.mul_one, Nat.add_zero, Nat.zero_add, Nat.zero_mul, Int.toNat_natCast, Int.reduceToNat, Nat.reduceMul, Nat.reduceAdd, decide_true, decide_false, Bool.not_true, Bool.not_false, true_and, and_true, List.map_cons, List.map_nil, List.nil_append, List.cons_append, List.append_nil, Option.map_some, Option.bind_some, List.getElem?_cons_zero, List.getElem?_cons_succ, Bool.false_eq_true, not_true_eq_false, not_false_eq_true, List.contains_cons, List.contains_nil, Nat.reduceBEq, Bool.true_or, Bool.false_or, Bool.or_true, List.set_cons_zero, List.set_cons_succ, List.length_cons, List.length_nil, isLd, Bool.true_and, Bool.false_and, Bool.and_true, Bool.and_false, e4, e5, e18, e19, e20, e8, e9, e52, e53, hj, hc2]
        by_cases hx : iP N.arcs k j = hi
        · simp (maxSteps := 300000) (disch := omega) only [gs, gs2, gs3, ↓reduceIte, Nat.reduceEqDiff, Nat.mul_one, Nat.add_zero, Nat.zero_add, Nat.zero_mul, Int.toNat_natCast, Int.reduceToNat, Nat.reduceMul, Nat.reduceAdd, decide_true, decide_false, Bool.not_true, Bool.not_false, true_and, and_true, List.map_cons, List.map_nil, List.nil_append, List.cons_append, List.append_nil, Option.map_some, Option.bind_some, List.getElem?_cons_zero, List.getElem?_cons_succ, Bool.false_eq_true, not_true_eq_false, not_false_eq_true, List.contains_cons, List.contains_nil, Nat.reduceBEq, Bool.true_or, Bool.false_or, Bool.or_true, List.set_cons_zero, List.set_cons_succ, List.length_cons, List.length_nil, isLd, Bool.true_and, Bool.false_and, Bool.and_true, Bool.and_false, eq_true hx, e4, e5, e18, e19, e20, e8, e9, e52, e53]
          refine st_one (put_same _ _ _) (by simp; omega) rfl ?_
          simp (maxSteps := 300000) (disch := omega) only [gs, gs2, gs3, ↓reduceIte, Nat.reduceEqDiff, Nat.mul_one, Nat.add_zero, Nat.zero_add, Nat.zero_mul, Int.toNat_natCast, Int.reduceToNat, Nat.reduceMul, Nat.reduceAdd, decide_true, decide_false, Bool.not_true, Bool.not_false, true_and, and_true, List.map_cons, List.map_nil, List.nil_append, List.cons_append, List.append_nil, Option.map_some, Option.bind_some, List.getElem?_cons_zero, List.getElem?_cons_succ, Bool.false_eq_true, not_true_eq_false, not_false_eq_true, List.contains_cons, List.contains_nil, Nat.reduceBEq, Bool.true_or, Bool.false_or, Bool.or_true, List.set_cons_zero, List.set_cons_succ, List.length_cons, List.length_nil, isLd, Bool.true_and, Bool.false_and, Bool.and_true, Bool.and_false, e4, e5, e18, e19, e20, e8, e9, e52, e53]
          refine ⟨r' - 1, by omega, _, Sub.refl _, j + 1, rfl, by omega, by omega, ?_⟩
          rw [range_app_set (by omega)]
          congr 3
          exact range_cong fun v hv => by
            by_cases hvj : v = j
            · subst hvj; rw [if_pos rfl, if_pos (by omega), step, if_pos hx]; rfl
            · rw [if_neg hvj]
              by_cases hlt : v < j
              · rw [if_pos hlt, if_pos (by omega)]
              · rw [if_neg hlt, if_neg (by omega)]
        · rw [decide_eq_false hx]
          simp (maxSteps := 300000) (disch := omega) only [gs, gs2, gs3, ↓reduceIte, Nat.reduceEqDiff, Nat.mul_one, Nat.add_zero, Nat.zero_add, Nat.zero_mul, Int.toNat_natCast, Int.reduceToNat, Nat.reduceMul, Nat.reduceAdd, decide_true, decide_false, Bool.not_true, Bool.not_false, true_and, and_true, List.map_cons, List.map_nil, List.nil_append, List.cons_append, List.append_nil, Option.map_some, Option.bind_some, List.getElem?_cons_zero, List.getElem?_cons_succ, Bool.false_eq_true, not_true_eq_false, not_false_eq_true, List.contains_cons, List.contains_nil, Nat.reduceBEq, Bool.true_or, Bool.false_or, Bool.or_true, List.set_cons_zero, List.set_cons_succ, List.length_cons, List.length_nil, isLd, Bool.true_and, Bool.false_and, Bool.and_true, Bool.and_false, e4, e5, e18, e19, e20, e8, e9, e52, e53]
          refine ⟨r' - 1, by omega, _, Sub.refl _, j + 1, rfl, by omega, by omega, ?_⟩
          congr 3
          exact range_cong fun v hv => by
            by_cases hvj : v = j
            · subst hvj; rw [if_neg (by omega), if_pos (by omega), step, if_neg hx]
            · by_cases hlt : v < j
              · rw [if_pos hlt, if_pos (by omega)]
              · rw [if_neg hlt, if_neg (by omega)]
      · simp (maxSteps := 300000) (disch := omega) only [gs, gs2, gs3, ↓reduceIte, Nat.reduceEqDiff, Nat.mul_one, Nat.add_zero, Nat.zero_add, Nat.zero_mul, Int.toNat_natCast, Int.reduceToNat, Nat.reduceMul, Nat.reduceAdd, decide_true, decide_false, Bool.not_true, Bool.not_false, true_and, and_true, List.map_cons, List.map_nil, List.nil_append, List.cons_append, List.append_nil, Option.map_some, Option.bind_some, List.getElem?_cons_zero, List.getElem?_cons_succ, Bool.false_eq_true, not_true_eq_false, not_false_eq_true, List.contains_cons, List.contains_nil, Nat.reduceBEq, Bool.true_or, Bool.false_or, Bool.or_true, List.set_cons_zero, List.set_cons_succ, List.length_cons, List.length_nil, isLd, Bool.true_and, Bool.false_and, Bool.and_true, Bool.and_false, e4, e5, e18, e19, e20, e8, e9, e52, e53, hj]
        obtain rfl : j = N.n.toNat := by omega
        refine ⟨r - 1, by omega, _, Sub.refl _, k + 1, rfl, rfl, by omega, by omega, ?_⟩
        congr 3
        exact range_cong fun v hv => by rw [if_pos hv]
    · have SR : iR N.arcs (k + 1) = iR N.arcs k := by rw [iR, if_neg (by split at hlo <;> split at hhi <;> omega), Int.add_zero]
      rw [decide_eq_false hab]
      simp (maxSteps := 300000) (disch := omega) only [gs, gs2, gs3, ↓reduceIte, Nat.reduceEqDiff, Nat.mul_one, Nat.add_zero, Nat.zero_add, Nat.zero_mul, Int.toNat_natCast, Int.reduceToNat, Nat.reduceMul, Nat.reduceAdd, decide_true, decide_false, Bool.not_true, Bool.not_false, true_and, and_true, List.map_cons, List.map_nil, List.nil_append, List.cons_append, List.append_nil, Option.map_some, Option.bind_some, List.getElem?_cons_zero, List.getElem?_cons_succ, Bool.false_eq_true, not_true_eq_false, not_false_eq_true, List.contains_cons, List.contains_nil, Nat.reduceBEq, Bool.true_or, Bool.false_or, Bool.or_true, List.set_cons_zero, List.set_cons_succ, List.length_cons, List.length_nil, isLd, Bool.true_and, Bool.false_and, Bool.and_true, Bool.and_false, e4, e5, e18, e19, e20]
      refine gLoop_drop s7 (fun r' T G' => ∃ j : Nat, T 4 = .slice (some ⟨b, 0, none⟩) N.n.toNat c' ∧ T 5 = .int .i64 (iR N.arcs (k + 1)) ∧ T 18 = .slice A N.arcs.length c ∧ T 19 = .int .i64 N.arcs.length ∧ T 20 = .int .i64 k ∧ T 8 = .int .i64 lo ∧ T 9 = .int .i64 hi ∧ T 52 = .int .i64 (N.n.toNat : Nat) ∧ T 53 = .int .i64 j ∧ r' + j = N.n.toNat ∧ j ≤ N.n.toNat ∧
        G' = put G1 b ⟨(List.range N.n.toNat).map (fun v : Nat => I64 (if v < j then iP N.arcs (k + 1) v else iP N.arcs k v)) ++ rest, true⟩)
        N.n.toNat ⟨0, by simp (maxSteps := 300000) (disch := omega) only [gs, gs2, gs3, ↓reduceIte, Nat.reduceEqDiff, Nat.mul_one, Nat.add_zero, Nat.zero_add, Nat.zero_mul, Int.toNat_natCast, Int.reduceToNat, Nat.reduceMul, Nat.reduceAdd, decide_true, decide_false, Bool.not_true, Bool.not_false, true_and, and_true, List.map_cons, List.map_nil, List.nil_append, List.cons_append, List.append_nil, Option.map_some, Option.bind_some, List.getElem?_cons_zero, List.getElem?_cons_succ, Bool.false_eq_true, not_true_eq_false, not_false_eq_true, List.contains_cons, List.contains_nil, Nat.reduceBEq, Bool.true_or, Bool.false_or, Bool.or_true, List.set_cons_zero, List.set_cons_succ, List.length_cons, List.length_nil, isLd, Bool.true_and, Bool.false_and, Bool.and_true, Bool.and_false, e4], by simp (maxSteps := 300000) (disch := omega) only [gs, gs2, gs3, ↓reduceIte, Nat.reduceEqDiff, Nat.mul_one, Nat.add_zero, Nat.zero_add, Nat.zero_mul, Int.toNat_natCast, Int.reduceToNat, Nat.reduceMul, Nat.reduceAdd, decide_true, decide_false, Bool.not_true, Bool.not_false, true_and, and_true, List.map_cons, List.map_nil, List.nil_append, List.cons_append, List.append_nil, Option.map_some, Option.bind_some, List.getElem?_cons_zero, List.getElem?_cons_succ, Bool.false_eq_true, not_true_eq_false, not_false_eq_true, List.contains_cons, List.contains_nil, Nat.reduceBEq, Bool.true_or, Bool.false_or, Bool.or_true, List.set_cons_zero, List.set_cons_succ, List.length_cons, List.length_nil, isLd, Bool.true_and, Bool.false_and, Bool.and_true, Bool.and_false, e5, SR], by simp (maxSteps := 300000) (disch := omega) only [gs, gs2, gs3, ↓reduceIte, Nat.reduceEqDiff, Nat.mul_one, Nat.add_zero, Nat.zero_add, Nat.zero_mul, Int.toNat_natCast, Int.reduceToNat, Nat.reduceMul, Nat.reduceAdd, decide_true, decide_false, Bool.not_true, Bool.not_false, true_and, and_true, List.map_cons, List.map_nil, List.nil_append, List.cons_append, List.append_nil, Option.map_some, Option.bind_some, List.getElem?_cons_zero, List.getElem?_cons_succ, Bool.false_eq_true, not_true_eq_false, not_false_eq_true, List.contains_cons, List.contains_nil, Nat.reduceBEq, Bool.true_or, Bool.false_or, Bool.or_true, List.set_cons_zero, List.set_cons_succ, List.length_cons, List.length_nil, isLd, Bool.true_and, Bool.false_and, Bool.and_true, Bool.and_false, e18], by simp (maxSteps := 300000) (disch := omega) only [gs, gs2, gs3, ↓reduceIte, Nat.reduceEqDiff, Nat.mul_one, Nat.add_zero, Nat.zero_add, Nat.zero_mul, Int.toNat_natCast, Int.reduceToNat, Nat.reduceMul, Nat.reduceAdd, decide_true, decide_false, Bool.not_true, Bool.not_false, true_and, and_true, List.map_cons, List.map_nil, List.nil_append, List.cons_append, List.append_nil, Option.map_some, Option.bind_some, List.getElem?_cons_zero, List.getElem?_cons_succ, Bool.false_eq_true, not_true_eq_false, not_false_eq_true, List.contains_cons, List.contains_nil, Nat.reduceBEq, Bool.true_or, Bool.false_or, Bool.or_true, List.set_cons_zero, List.set_cons_succ, List.length_cons, List.length_nil, isLd, Bool.true_and, Bool.false_and, Bool.and_true, Bool.and_false, e19], by simp (maxSteps := 300000) (disch := omega) only [gs, gs2, gs3, ↓reduceIte, Nat.reduceEqDiff, Nat.mul_one, Nat.add_zero, Nat.zero_add, Nat.zero_mul, Int.toNat_natCast, Int.reduceToNat, Nat.reduceMul, Nat.reduceAdd, decide_true, decide_false, Bool.not_true, Bool.not_false, true_and, and_true, List.map_cons, List.map_nil, List.nil_append, List.cons_append, List.append_nil, Option.map_some, Option.bind_some, List.getElem?_cons_zero, List.getElem?_cons_succ, Bool.false_eq_true, not_true_eq_false, not_false_eq_true, List.contains_cons, List.contains_nil, Nat.reduceBEq, Bool.true_or, Bool.false_or, Bool.or_true, List.set_cons_zero, List.set_cons_succ, List.length_cons, List.length_nil, isLd, Bool.true_and, Bool.false_and, Bool.and_true, Bool.and_false, e20], by simp (maxSteps := 300000) (disch := omega) only [gs, gs2, gs3, ↓reduceIte, Nat.reduceEqDiff, Nat.mul_one, Nat.add_zero, Nat.zero_add, Nat.zero_mul, Int.toNat_natCast, Int.reduceToNat, Nat.reduceMul, Nat.reduceAdd, decide_true, decide_false, Bool.not_true, Bool.not_false, true_and, and_true, List.map_cons, List.map_nil, List.nil_append, List.cons_append, List.append_nil, Option.map_some, Option.bind_some, List.getElem?_cons_zero, List.getElem?_cons_succ, Bool.false_eq_true, not_true_eq_false, not_false_eq_true, List.contains_cons, List.contains_nil, Nat.reduceBEq, Bool.true_or, Bool.false_or, Bool.or_true, List.set_cons_zero, List.set_cons_succ, List.length_cons, List.length_nil, isLd, Bool.true_and, Bool.false_and, Bool.and_true, Bool.and_false], by simp (maxSteps := 300000) (disch := omega) only [gs, gs2, gs3, ↓reduceIte, Nat.reduceEqDiff, Nat.mul_one, Nat.add_zero, Nat.zero_add, Nat.zero_mul, Int.toNat_natCast, Int.reduceToNat, Nat.reduceMul, Nat.reduceAdd, decide_true, decide_false, Bool.not_true, Bool.not_false, true_and, and_true, List.map_cons, List.map_nil, List.nil_append, List.cons_append, List.append_nil, Option.map_some, Option.bind_some, List.getElem?_cons_zero, List.getElem?_cons_succ, Bool.false_eq_true, not_true_eq_false, not_false_eq_true, List.contains_cons, List.contains_nil, Nat.reduceBEq, Bool.true_or, Bool.false_or, Bool.or_true, List.set_cons_zero, List.set_cons_succ, List.length_cons, List.length_nil, isLd, Bool.true_and, Bool.false_and, Bool.and_true, Bool.and_false], by simp (maxSteps := 300000) (disch := omega) only [gs, gs2, gs3, ↓reduceIte, Nat.reduceEqDiff, Nat.mul_one, Nat.add_zero, Nat.zero_add, Nat.zero_mul, Int.toNat_natCast, Int.reduceToNat, Nat.reduceMul, Nat.reduceAdd, decide_true, decide_false, Bool.not_true, Bool.not_false, true_and, and_true, List.map_cons, List.map_nil, List.nil_append, List.cons_append, List.append_nil, Option.map_some, Option.bind_some, List.getElem?_cons_zero, List.getElem?_cons_succ, Bool.false_eq_true, not_true_eq_false, not_false_eq_true, List.contains_cons, List.contains_nil, Nat.reduceBEq, Bool.true_or, Bool.false_or, Bool.or_true, List.set_cons_zero, List.set_cons_succ, List.length_cons, List.length_nil, isLd, Bool.true_and, Bool.false_and, Bool.and_true, Bool.and_false], by simp (maxSteps := 300000) (disch := omega) only [gs, gs2, gs3, ↓reduceIte, Nat.reduceEqDiff, Nat.mul_one, Nat.add_zero, Nat.zero_add, Nat.zero_mul, Int.toNat_natCast, Int.reduceToNat, Nat.reduceMul, Nat.reduceAdd, decide_true, decide_false, Bool.not_true, Bool.not_false, true_and, and_true, List.map_cons, List.map_nil, List.nil_append, List.cons_append, List.append_nil, Option.map_some, Option.bind_some, List.getElem?_cons_zero, List.getElem?_cons_succ, Bool.false_eq_true, not_true_eq_false, not_false_eq_true, List.contains_cons, List.contains_nil, Nat.reduceBEq, Bool.true_or, Bool.false_or, Bool.or_true, List.set_cons_zero, List.set_cons_succ, List.length_cons, List.length_nil, isLd, Bool.true_and, Bool.false_and, Bool.and_true, Bool.and_false] <;> rfl, by omega, by omega, by simp only [Nat.not_lt_zero, if_false]⟩ ?_
      rintro r' T G' ⟨j, e4, e5, e18, e19, e20, e8, e9, e52, e53, hr2, hjn, rfl⟩
      simp (maxSteps := 300000) (disch := omega) only [gs, gs2, gs3, ↓reduceIte, Nat.reduceEqDiff, Nat.mul_one, Nat.add_zero, Nat.zero_add, Nat.zero_mul, Int.toNat_natCast, Int.reduceToNat, Nat.reduceMul, Nat.reduceAdd, decide_true, decide_false, Bool.not_true, Bool.not_false, true_and, and_true, List.map_cons, List.map_nil, List.nil_append, List.cons_append, List.append_nil, Option.map_some, Option.bind_some, List.getElem?_cons_zero, List.getElem?_cons_succ, Bool.false_eq_true, not_true_eq_false, not_false_eq_true, List.contains_cons, List.contains_nil, Nat.reduceBEq, Bool.true_or, Bool.false_or, Bool.or_true, List.set_cons_zero, List.set_cons_succ, List.length_cons, List.length_nil, isLd, Bool.true_and, Bool.false_and, Bool.and_true, Bool.and_false, e4, e5, e18, e19, e20, e8, e9, e52, e53]
      by_cases hj : (j : Int) < (N.n.toNat : Nat)
      · have hc2 : ((List.range N.n.toNat).map (fun v : Nat => I64 (if v < j then iP N.arcs (k + 1) v else iP N.arcs k v)) ++ rest)[j]? = some (.int .i64 (iP N.arcs k j)) := by
          rw [range_app_get (by omega), if_neg (by omega)]; rfl
        simp (maxSteps := 300000) (disch := omega) only [gs, gs2, gs3, ↓reduceIte, Nat.reduceEqDiff, Nat.mul_one, Nat.add_zero, Nat.zero_add, Nat.zero_mul, Int.toNat_natCast, Int.reduceToNat, Nat.reduceMul, Nat.reduceAdd, decide_true, decide_false, Bool.not_true, Bool.not_false, true_and, and_true, List.map_cons, List.map_nil, List.nil_append, List.cons_append, List.append_nil, Option.map_some, Option.bind_some, List.getElem?_cons_zero, List.getElem?_cons_succ, Bool.false_eq_true, not_true_eq_false, not_false_eq_true, List.contains_cons, List.contains_nil, Nat.reduceBEq, Bool.true_or, Bool.false_or, Bool.or_true, List.set_cons_zero, List.set_cons_succ, List.length_cons, List.length_nil, isLd, Bool.true_and, Bool.false_and, Bool.and_true, Bool.and_false, e4, e5, e18, e19, e20, e8, e9, e52, e53, hj, hc2]
        by_cases hx : iP N.arcs k j = hi
        · simp (maxSteps := 300000) (disch := omega) only [gs, gs2, gs3, ↓reduceIte, Nat.reduceEqDiff, Nat.mul_one, Nat.add_zero, Nat.zero_add, Nat.zero_mul, Int.toNat_natCast, Int.reduceToNat, Nat.reduceMul, Nat.reduceAdd, decide_true, decide_false, Bool.not_true, Bool.not_false, true_and, and_true, List.map_cons, List.map_nil, List.nil_append, List.cons_append, List.append_nil, Option.map_some, Option.bind_some, List.getElem?_cons_zero, List.getElem?_cons_succ, Bool.false_eq_true, not_true_eq_false, not_false_eq_true, List.contains_cons, List.contains_nil, Nat.reduceBEq, Bool.true_or, Bool.false_or, Bool.or_true, List.set_cons_zero, List.set_cons_succ, List.length_cons, List.length_nil, isLd, Bool.true_and, Bool.false_and, Bool.and_true, Bool.and_false, eq_true hx, e4, e5, e18, e19, e20, e8, e9, e52, e53]
          refine st_one (put_same _ _ _) (by simp; omega) rfl ?_
          simp (maxSteps := 300000) (disch := omega) only [gs, gs2, gs3, ↓reduceIte, Nat.reduceEqDiff, Nat.mul_one, Nat.add_zero, Nat.zero_add, Nat.zero_mul, Int.toNat_natCast, Int.reduceToNat, Nat.reduceMul, Nat.reduceAdd, decide_true, decide_false, Bool.not_true, Bool.not_false, true_and, and_true, List.map_cons, List.map_nil, List.nil_append, List.cons_append, List.append_nil, Option.map_some, Option.bind_some, List.getElem?_cons_zero, List.getElem?_cons_succ, Bool.false_eq_true, not_true_eq_false, not_false_eq_true, List.contains_cons, List.contains_nil, Nat.reduceBEq, Bool.true_or, Bool.false_or, Bool.or_true, List.set_cons_zero, List.set_cons_succ, List.length_cons, List.length_nil, isLd, Bool.true_and, Bool.false_and, Bool.and_true, Bool.and_false, e4, e5, e18, e19, e20, e8, e9, e52, e53]
          refine ⟨r' - 1, by omega, _, Sub.refl _, j + 1, rfl, by omega, by omega, ?_⟩
          rw [range_app_set (by omega)]
          congr 3
          exact range_cong fun v hv => by
            by_cases hvj : v = j
            · subst hvj; rw [if_pos rfl, if_pos (by omega), step, if_pos hx]; rfl
            · rw [if_neg hvj]
              by_cases hlt : v < j
              · rw [if_pos hlt, if_pos (by omega)]
              · rw [if_neg hlt, if_neg (by omega)]
        · rw [decide_eq_false hx]
          simp (maxSteps := 300000) (disch := omega) only [gs, gs2, gs3, ↓reduceIte, Nat.reduceEqDiff, Nat.mul_one, Nat.add_zero, Nat.zero_add, Nat.zero_mul, Int.toNat_natCast, Int.reduceToNat, Nat.reduceMul, Nat.reduceAdd, decide_true, decide_false, Bool.not_true, Bool.not_false, true_and, and_true, List.map_cons, List.map_nil, List.nil_append, List.cons_append, List.append_nil, Option.map_some, Option.bind_some, List.getElem?_cons_zero, List.getElem?_cons_succ, Bool.false_eq_true, not_true_eq_false, not_false_eq_true, List.contains_cons, List.contains_nil, Nat.reduceBEq, Bool.true_or, Bool.false_or, Bool.or_true, List.set_cons_zero, List.set_cons_succ, List.length_cons, List.length_nil, isLd, Bool.true_and, Bool.false_and, Bool.and_true, Bool.and_false, e4, e5, e18, e19, e20, e8, e9, e52, e53]
          refine ⟨r' - 1, by omega, _, Sub.refl _, j + 1, rfl, by omega, by omega, ?_⟩
          congr 3
          exact range_cong fun v hv => by
            by_cases hvj : v = j
            · subst hvj; rw [if_neg (by omega), if_pos (by omega), step, if_neg hx]
            · by_cases hlt : v < j
              · rw [if_pos hlt, if_pos (by omega)]
              · rw [if_neg hlt, if_neg (by omega)]
      · simp (maxSteps := 300000) (disch := omega) only [gs, gs2, gs3, ↓reduceIte, Nat.reduceEqDiff, Nat.mul_one, Nat.add_zero, Nat.zero_add, Nat.zero_mul, Int.toNat_natCast, Int.reduceToNat, Nat.reduceMul, Nat.reduceAdd, decide_true, decide_false, Bool.not_true, Bool.not_false, true_and, and_true, List.map_cons, List.map_nil, List.nil_append, List.cons_append, List.append_nil, Option.map_some, Option.bind_some, List.getElem?_cons_zero, List.getElem?_cons_succ, Bool.false_eq_true, not_true_eq_false, not_false_eq_true, List.contains_cons, List.contains_nil, Nat.reduceBEq, Bool.true_or, Bool.false_or, Bool.or_true, List.set_cons_zero, List.set_cons_succ, List.length_cons, List.length_nil, isLd, Bool.true_and, Bool.false_and, Bool.and_true, Bool.and_false, e4, e5, e18, e19, e20, e8, e9, e52, e53, hj]
        obtain rfl : j = N.n.toNat := by omega
        refine ⟨r - 1, by omega, _, Sub.refl _, k + 1, rfl, rfl, by omega, by omega, ?_⟩
        congr 3
        exact range_cong fun v hv => by rw [if_pos hv]
  · simp (maxSteps := 300000) (disch := omega) only [gs, gs2, gs3, ↓reduceIte, Nat.reduceEqDiff, Nat.mul_one, Nat.add_zero, Nat.zero_add, Nat.zero_mul, Int.toNat_natCast, Int.reduceToNat, Nat.reduceMul, Nat.reduceAdd, decide_true, decide_false, Bool.not_true, Bool.not_false, true_and, and_true, List.map_cons, List.map_nil, List.nil_append, List.cons_append, List.append_nil, Option.map_some, Option.bind_some, List.getElem?_cons_zero, List.getElem?_cons_succ, Bool.false_eq_true, not_true_eq_false, not_false_eq_true, List.contains_cons, List.contains_nil, Nat.reduceBEq, Bool.true_or, Bool.false_or, Bool.or_true, List.set_cons_zero, List.set_cons_succ, List.length_cons, List.length_nil, isLd, Bool.true_and, Bool.false_and, Bool.and_true, Bool.and_false, e4, e5, e18, e19, e20, hkl2]
    obtain rfl : k = N.arcs.length := by omega
    rw [rank_eq] at hk
    exact ⟨G, s1.trans (Sub.put hbn _), hk⟩
theorem put_comm (G : GH) {b b' : Nat} (e e' : Ent) (h : b ≠ b') : put (put G b e) b' e' = put (put G b' e') b e := by
  funext x; unfold put
  by_cases h1 : x = b'
  · subst h1; rw [if_pos rfl, if_neg (fun e => h e.symm), if_pos rfl]
  · rw [if_neg h1]; by_cases h2 : x = b
    · rw [if_pos h2, if_pos h2]
    · rw [if_neg h2, if_neg h2, if_neg h1]
/-- a block of the ground is written while a list of its own lies above it. -/
theorem New.base {G Gc : GH} {bB : Nat} {e e' : Ent} {A : Option Addr} {c sz n : Nat} {cs : List Value} (h : New (put G bB e) Gc A c cs sz n) : New (put G bB e') (put Gc bB e') A c cs sz n := by
  rcases h with ⟨h1, h2, h3, h4, rfl⟩ | ⟨b, r, h1, h2, rfl, h3⟩
  · exact .inl ⟨h1, h2, h3, h4, by rw [put_put']⟩
  · have hne : b ≠ bB := fun e2 => by rw [e2, put_same] at h2; cases h2
    exact .inr ⟨b, r, h1, by rw [put_ne _ _ hne] at h2 ⊢; exact h2, by rw [put_comm _ _ _ hne, put_put'], h3⟩
theorem New.at {G Gc : GH} {bB : Nat} {e : Ent} {A : Option Addr} {c sz n : Nat} {cs : List Value} (h : New (put G bB e) Gc A c cs sz n) : Gc bB = some e := h.sub _ _ (put_same _ _ _)
theorem New.ints' {G G' : GH} {A : Option Addr} {c n : Nat} {xs : List Int} (h : New G G' A c (xs.map I64) 1 n) (hn : n = xs.length) : IntS G' A c xs := by subst hn; exact h.ints
theorem visit_yes {es : List T3} {fl : List Int} {u v : Int} {st : BS} (h1 : ¬ v ∈ st.q) (h2 : 0 < rm es fl u v) : visit es fl u v st = ⟨st.q ++ [v], fun w => if w = v then u else st.b w⟩ := by unfold visit; rw [if_pos ⟨h1, h2⟩]
theorem visit_no {es : List T3} {fl : List Int} {u v : Int} {st : BS} (h : ¬ (¬ v ∈ st.q ∧ 0 < rm es fl u v)) : visit es fl u v st = st := by unfold visit; rw [if_neg h]
/-- the cells of a function on the numbers below n. -/
def fcells (n : Nat) (b : Int → Int) : List Value := (List.range n).map fun v : Nat => I64 (b v)
theorem fcells_len (n : Nat) (b : Int → Int) : (fcells n b).length = n := by simp [fcells]
theorem fcells_get {n : Nat} {b : Int → Int} {rest : List Value} {v : Int} (h0 : 0 ≤ v) (h : v < n) : (fcells n b ++ rest)[v.toNat]? = some (.int .i64 (b v)) := by
  unfold fcells; rw [range_app_get (by omega)]; simp only [I64]; rw [Int.toNat_of_nonneg h0]
theorem fcells_set {n : Nat} {b : Int → Int} {rest : List Value} {v x : Int} (h0 : 0 ≤ v) (h : v < n) : (fcells n b ++ rest).set v.toNat (.int .i64 x) = fcells n (fun w => if w = v then x else b w) ++ rest := by
  unfold fcells
  rw [range_app_set (by omega)]
  congr 1
  exact range_cong fun w hw => by
    by_cases hwv : (w : Int) = v
    · rw [if_pos (by omega)]; simp only [if_pos hwv]; rfl
    · rw [if_neg (by omega)]; simp only [if_neg hwv]
theorem spec_l19Reach_ok {G : GH} {q : Option Addr} {N : Net} {A B : Option Addr} {c d : Nat} {fl : List Int} (h : NetP G q N A c) (hf : IntS G B d fl) (hn : NetOk N) (hc : Cap N.arcs fl) {K : Value → GH → Prop}
    (hk : ∀ G' A' c', New G G' A' c' (fcells N.n.toNat (reach N.arcs fl N.n.toNat N.s).b) 1 N.n.toNat → K (.slice A' N.n.toNat c') G') : GC Try.prog 194 [.pointer q, .slice B fl.length d] G K := by
  refine GC_drop (c_spec_l19Reach_i (by simp) ?_)
  have hq := rd_some h.f0
  have f0 := h.f0
  have f1 := h.f1
  have hn1 := hn.1
  have hn2 := hn.2.1
  simp (maxSteps := 300000) (disch := omega) only [gs, gs2, gs3, ↓reduceIte, Nat.reduceEqDiff, Nat.mul_one, Nat.add_zero, Nat.zero_add, Nat.zero_mul, Int.toNat_natCast, Int.reduceToNat, Nat.reduceMul, Nat.reduceAdd, decide_true, decide_false, Bool.not_true, Bool.not_false, true_and, and_true, List.map_cons, List.map_nil, List.nil_append, List.cons_append, List.append_nil, Option.map_some, Option.bind_some, List.getElem?_cons_zero, List.getElem?_cons_succ, Bool.false_eq_true, not_true_eq_false, not_false_eq_true, List.contains_cons, List.contains_nil, Nat.reduceBEq, Bool.true_or, Bool.false_or, Bool.or_true, List.set_cons_zero, List.set_cons_succ, List.length_cons, List.length_nil, isLd, Bool.true_and, Bool.false_and, Bool.and_true, Bool.and_false, gBs]
  refine ⟨by intro v hv; simp at hv, fun b5 hb5 => ?_⟩
  refine gLoop_intro (fun r T G' => ∃ (k : Nat) (A : Option Addr) (c : Nat), T 0 = .pointer q ∧ T 1 = .slice B fl.length d ∧ T 5 = .slice A k c ∧ T 6 = .int .i64 k ∧ r + k = N.n.toNat ∧ k ≤ N.n.toNat ∧ New G G' A c (fcells k (fun _ => -1)) 1 k)
    N.n.toNat ⟨0, _, _, by simp (maxSteps := 300000) (disch := omega) only [gs, gs2, gs3, ↓reduceIte, Nat.reduceEqDiff, Nat.mul_one, Nat.add_zero, Nat.zero_add, Nat.zero_mul, Int.toNat_natCast, Int.reduceToNat, Nat.reduceMul, Nat.reduceAdd, decide_true, decide_false, Bool.not_true, Bool.not_false, true_and, and_true, List.map_cons, List.map_nil, List.nil_append, List.cons_append, List.append_nil, Option.map_some, Option.bind_some, List.getElem?_cons_zero, List.getElem?_cons_succ, Bool.false_eq_true, not_true_eq_false, not_false_eq_true, List.contains_cons, List.contains_nil, Nat.reduceBEq, Bool.true_or, Bool.false_or, Bool.or_true, List.set_cons_zero, List.set_cons_succ, List.length_cons, List.length_nil, isLd, Bool.true_and, Bool.false_and, Bool.and_true, Bool.and_false], by simp (maxSteps := 300000) (disch := omega) only [gs, gs2, gs3, ↓reduceIte, Nat.reduceEqDiff, Nat.mul_one, Nat.add_zero, Nat.zero_add, Nat.zero_mul, Int.toNat_natCast, Int.reduceToNat, Nat.reduceMul, Nat.reduceAdd, decide_true, decide_false, Bool.not_true, Bool.not_false, true_and, and_true, List.map_cons, List.map_nil, List.nil_append, List.cons_append, List.append_nil, Option.map_some, Option.bind_some, List.getElem?_cons_zero, List.getElem?_cons_succ, Bool.false_eq_true, not_true_eq_false, not_false_eq_true, List.contains_cons, List.contains_nil, Nat.reduceBEq, Bool.true_or, Bool.false_or, Bool.or_true, List.set_cons_zero, List.set_cons_succ, List.length_cons, List.length_nil, isLd, Bool.true_and, Bool.false_and, Bool.and_true, Bool.and_false], by simp (maxSteps := 300000) (disch := omega) only [gs, gs2, gs3, ↓reduceIte, Nat.reduceEqDiff, Nat.mul_one, Nat.add_zero, Nat.zero_add, Nat.zero_mul, Int.toNat_natCast, Int.reduceToNat, Nat.reduceMul, Nat.reduceAdd, decide_true, decide_false, Bool.not_true, Bool.not_false, true_and, and_true, List.map_cons, List.map_nil, List.nil_append, List.cons_append, List.append_nil, Option.map_some, Option.bind_some, List.getElem?_cons_zero, List.getElem?_cons_succ, Bool.false_eq_true, not_true_eq_false, not_false_eq_true, List.contains_cons, List.contains_nil, Nat.reduceBEq, Bool.true_or, Bool.false_or, Bool.or_true, List.set_cons_zero, List.set_cons_succ, List.length_cons, List.length_nil, isLd, Bool.true_and, Bool.false_and, Bool.and_true, Bool.and_false] <;> rfl, by simp (maxSteps := 300000) (disch := omega) only [gs, gs2, gs3, ↓reduceIte, Nat.reduceEqDiff, Nat.mul_one, Nat.add_zero, Nat.zero_add, Nat.zero_mul, Int.toNat_natCast, Int.reduceToNat, Nat.reduceMul, Nat.reduceAdd, decide_true, decide_false, Bool.not_true, Bool.not_false, true_and, and_true, List.map_cons, List.map_nil, List.nil_append, List.cons_append, List.append_nil, Option.map_some, Option.bind_some, List.getElem?_cons_zero, List.getElem?_cons_succ, Bool.false_eq_true, not_true_eq_false, not_false_eq_true, List.contains_cons, List.contains_nil, Nat.reduceBEq, Bool.true_or, Bool.false_or, Bool.or_true, List.set_cons_zero, List.set_cons_succ, List.length_cons, List.length_nil, isLd, Bool.true_and, Bool.false_and, Bool.and_true, Bool.and_false] <;> rfl, by omega, by omega, New.mk hb5 [] 1 0 rfl⟩ ?_
  rintro r T G' ⟨k, A', c', e0, e1, e5, e6, hr', hkm, hN⟩
  have f0' := rd_sub hN.sub f0
  simp (maxSteps := 300000) (disch := omega) only [gs, gs2, gs3, ↓reduceIte, Nat.reduceEqDiff, Nat.mul_one, Nat.add_zero, Nat.zero_add, Nat.zero_mul, Int.toNat_natCast, Int.reduceToNat, Nat.reduceMul, Nat.reduceAdd, decide_true, decide_false, Bool.not_true, Bool.not_false, true_and, and_true, List.map_cons, List.map_nil, List.nil_append, List.cons_append, List.append_nil, Option.map_some, Option.bind_some, List.getElem?_cons_zero, List.getElem?_cons_succ, Bool.false_eq_true, not_true_eq_false, not_false_eq_true, List.contains_cons, List.contains_nil, Nat.reduceBEq, Bool.true_or, Bool.false_or, Bool.or_true, List.set_cons_zero, List.set_cons_succ, List.length_cons, List.length_nil, isLd, Bool.true_and, Bool.false_and, Bool.and_true, Bool.and_false, e0, e1, e5, e6, f0']
  by_cases hkk : (k : Int) < N.n
  · simp (maxSteps := 300000) (disch := omega) only [gs, gs2, gs3, ↓reduceIte, Nat.reduceEqDiff, Nat.mul_one, Nat.add_zero, Nat.zero_add, Nat.zero_mul, Int.toNat_natCast, Int.reduceToNat, Nat.reduceMul, Nat.reduceAdd, decide_true, decide_false, Bool.not_true, Bool.not_false, true_and, and_true, List.map_cons, List.map_nil, List.nil_append, List.cons_append, List.append_nil, Option.map_some, Option.bind_some, List.getElem?_cons_zero, List.getElem?_cons_succ, Bool.false_eq_true, not_true_eq_false, not_false_eq_true, List.contains_cons, List.contains_nil, Nat.reduceBEq, Bool.true_or, Bool.false_or, Bool.or_true, List.set_cons_zero, List.set_cons_succ, List.length_cons, List.length_nil, isLd, Bool.true_and, Bool.false_and, Bool.and_true, Bool.and_false, e0, e1, e5, e6, hkk, gBs]
    refine ⟨by intro v hv; simp at hv; subst hv; rfl, fun b hb => ?_⟩
    refine ap_new hN (Sub.put hb _) (cells_one [.int .i64 (-1)] true) (by rfl) (by intro v hv; simp at hv; subst hv; rfl) rfl (by omega) (by omega) (by omega) fun G'' A' c' hN' => ?_
    simp (maxSteps := 300000) (disch := omega) only [gs, gs2, gs3, ↓reduceIte, Nat.reduceEqDiff, Nat.mul_one, Nat.add_zero, Nat.zero_add, Nat.zero_mul, Int.toNat_natCast, Int.reduceToNat, Nat.reduceMul, Nat.reduceAdd, decide_true, decide_false, Bool.not_true, Bool.not_false, true_and, and_true, List.map_cons, List.map_nil, List.nil_append, List.cons_append, List.append_nil, Option.map_some, Option.bind_some, List.getElem?_cons_zero, List.getElem?_cons_succ, Bool.false_eq_true, not_true_eq_false, not_false_eq_true, List.contains_cons, List.contains_nil, Nat.reduceBEq, Bool.true_or, Bool.false_or, Bool.or_true, List.set_cons_zero, List.set_cons_succ, List.length_cons, List.length_nil, isLd, Bool.true_and, Bool.false_and, Bool.and_true, Bool.and_false, e0, e1, e5, e6]
    exact ⟨r - 1, by omega, _, Sub.refl _, k + 1, A', c', rfl, rfl, by omega, by omega, hN'.cast (by simp [fcells, List.range_succ, I64]) rfl⟩
  obtain rfl : k = N.n.toNat := by omega
  rcases hN with ⟨_, _, hz, _, _⟩ | ⟨b, rest, rfl, hbn, rfl, _, hcl, hcap⟩
  · omega
  have hp : ∀ e, NetP (put G b e) q N A c := fun e => h.sub (Sub.put hbn _)
  have f1' := (hp ⟨fcells N.n.toNat (fun _ => -1) ++ rest, true⟩).f1
  simp (maxSteps := 300000) (disch := omega) only [gs, gs2, gs3, ↓reduceIte, Nat.reduceEqDiff, Nat.mul_one, Nat.add_zero, Nat.zero_add, Nat.zero_mul, Int.toNat_natCast, Int.reduceToNat, Nat.reduceMul, Nat.reduceAdd, decide_true, decide_false, Bool.not_true, Bool.not_false, true_and, and_true, List.map_cons, List.map_nil, List.nil_append, List.cons_append, List.append_nil, Option.map_some, Option.bind_some, List.getElem?_cons_zero, List.getElem?_cons_succ, Bool.false_eq_true, not_true_eq_false, not_false_eq_true, List.contains_cons, List.contains_nil, Nat.reduceBEq, Bool.true_or, Bool.false_or, Bool.or_true, List.set_cons_zero, List.set_cons_succ, List.length_cons, List.length_nil, isLd, Bool.true_and, Bool.false_and, Bool.and_true, Bool.and_false, e0, e1, e5, e6, hkk, f1']
  refine st_one (put_same _ _ _) (by rw [List.length_append, fcells_len]; omega) rfl ?_
  rw [put_put', fcells_set (by omega) (by omega)]
  have f1' := (hp ⟨fcells N.n.toNat (fun w => if w = N.s then N.s else -1) ++ rest, true⟩).f1
  simp (maxSteps := 300000) (disch := omega) only [gs, gs2, gs3, ↓reduceIte, Nat.reduceEqDiff, Nat.mul_one, Nat.add_zero, Nat.zero_add, Nat.zero_mul, Int.toNat_natCast, Int.reduceToNat, Nat.reduceMul, Nat.reduceAdd, decide_true, decide_false, Bool.not_true, Bool.not_false, true_and, and_true, List.map_cons, List.map_nil, List.nil_append, List.cons_append, List.append_nil, Option.map_some, Option.bind_some, List.getElem?_cons_zero, List.getElem?_cons_succ, Bool.false_eq_true, not_true_eq_false, not_false_eq_true, List.contains_cons, List.contains_nil, Nat.reduceBEq, Bool.true_or, Bool.false_or, Bool.or_true, List.set_cons_zero, List.set_cons_succ, List.length_cons, List.length_nil, isLd, Bool.true_and, Bool.false_and, Bool.and_true, Bool.and_false, e0, e1, e5, e6, f1', gBs]
  refine ⟨by intro v hv; simp at hv; subst hv; rfl, fun b7 hb7 => ?_⟩
  generalize hnn : N.n.toNat = n at *
  have hs : 0 ≤ N.s ∧ N.s < (n : Nat) := by omega
  have hI := fun i => BI.bfs (es := N.arcs) (fl := fl) (n := n) hs i
  refine gLoop_intro (fun r T G' => ∃ (i : Nat) (Aq : Option Addr) (cq : Nat), T 0 = .pointer q ∧ T 1 = .slice B fl.length d ∧ T 5 = .slice (some ⟨b, 0, none⟩) n c' ∧ T 7 = .slice Aq (bfs N.arcs fl n N.s i).q.length cq ∧ T 8 = .int .i64 i ∧ r + i = n ∧ i ≤ n ∧
    New (put G b ⟨fcells n (bfs N.arcs fl n N.s i).b ++ rest, true⟩) G' Aq cq ((bfs N.arcs fl n N.s i).q.map I64) 1 (bfs N.arcs fl n N.s i).q.length)
    n ⟨0, _, _, by simp (maxSteps := 300000) (disch := omega) only [gs, gs2, gs3, ↓reduceIte, Nat.reduceEqDiff, Nat.mul_one, Nat.add_zero, Nat.zero_add, Nat.zero_mul, Int.toNat_natCast, Int.reduceToNat, Nat.reduceMul, Nat.reduceAdd, decide_true, decide_false, Bool.not_true, Bool.not_false, true_and, and_true, List.map_cons, List.map_nil, List.nil_append, List.cons_append, List.append_nil, Option.map_some, Option.bind_some, List.getElem?_cons_zero, List.getElem?_cons_succ, Bool.false_eq_true, not_true_eq_false, not_false_eq_true, List.contains_cons, List.contains_nil, Nat.reduceBEq, Bool.true_or, Bool.false_or, Bool.or_true, List.set_cons_zero, List.set_cons_succ, List.length_cons, List.length_nil, isLd, Bool.true_and, Bool.false_and, Bool.and_true, Bool.and_false, e0], by simp (maxSteps := 300000) (disch := omega) only [gs, gs2, gs3, ↓reduceIte, Nat.reduceEqDiff, Nat.mul_one, Nat.add_zero, Nat.zero_add, Nat.zero_mul, Int.toNat_natCast, Int.reduceToNat, Nat.reduceMul, Nat.reduceAdd, decide_true, decide_false, Bool.not_true, Bool.not_false, true_and, and_true, List.map_cons, List.map_nil, List.nil_append, List.cons_append, List.append_nil, Option.map_some, Option.bind_some, List.getElem?_cons_zero, List.getElem?_cons_succ, Bool.false_eq_true, not_true_eq_false, not_false_eq_true, List.contains_cons, List.contains_nil, Nat.reduceBEq, Bool.true_or, Bool.false_or, Bool.or_true, List.set_cons_zero, List.set_cons_succ, List.length_cons, List.length_nil, isLd, Bool.true_and, Bool.false_and, Bool.and_true, Bool.and_false, e1], by simp (maxSteps := 300000) (disch := omega) only [gs, gs2, gs3, ↓reduceIte, Nat.reduceEqDiff, Nat.mul_one, Nat.add_zero, Nat.zero_add, Nat.zero_mul, Int.toNat_natCast, Int.reduceToNat, Nat.reduceMul, Nat.reduceAdd, decide_true, decide_false, Bool.not_true, Bool.not_false, true_and, and_true, List.map_cons, List.map_nil, List.nil_append, List.cons_append, List.append_nil, Option.map_some, Option.bind_some, List.getElem?_cons_zero, List.getElem?_cons_succ, Bool.false_eq_true, not_true_eq_false, not_false_eq_true, List.contains_cons, List.contains_nil, Nat.reduceBEq, Bool.true_or, Bool.false_or, Bool.or_true, List.set_cons_zero, List.set_cons_succ, List.length_cons, List.length_nil, isLd, Bool.true_and, Bool.false_and, Bool.and_true, Bool.and_false, e5], by simp (maxSteps := 300000) (disch := omega) only [gs, gs2, gs3, ↓reduceIte, Nat.reduceEqDiff, Nat.mul_one, Nat.add_zero, Nat.zero_add, Nat.zero_mul, Int.toNat_natCast, Int.reduceToNat, Nat.reduceMul, Nat.reduceAdd, decide_true, decide_false, Bool.not_true, Bool.not_false, true_and, and_true, List.map_cons, List.map_nil, List.nil_append, List.cons_append, List.append_nil, Option.map_some, Option.bind_some, List.getElem?_cons_zero, List.getElem?_cons_succ, Bool.false_eq_true, not_true_eq_false, not_false_eq_true, List.contains_cons, List.contains_nil, Nat.reduceBEq, Bool.true_or, Bool.false_or, Bool.or_true, List.set_cons_zero, List.set_cons_succ, List.length_cons, List.length_nil, isLd, Bool.true_and, Bool.false_and, Bool.and_true, Bool.and_false] <;> rfl, by simp (maxSteps := 300000) (disch := omega) only [gs, gs2, gs3, ↓reduceIte, Nat.reduceEqDiff, Nat.mul_one, Nat.add_zero, Nat.zero_add, Nat.zero_mul, Int.toNat_natCast, Int.reduceToNat, Nat.reduceMul, Nat.reduceAdd, decide_true, decide_false, Bool.not_true, Bool.not_false, true_and, and_true, List.map_cons, List.map_nil, List.nil_append, List.cons_append, List.append_nil, Option.map_some, Option.bind_some, List.getElem?_cons_zero, List.getElem?_cons_succ, Bool.false_eq_true, not_true_eq_false, not_false_eq_true, List.contains_cons, List.contains_nil, Nat.reduceBEq, Bool.true_or, Bool.false_or, Bool.or_true, List.set_cons_zero, List.set_cons_succ, List.length_cons, List.length_nil, isLd, Bool.true_and, Bool.false_and, Bool.and_true, Bool.and_false] <;> rfl, by omega, by omega, New.mk hb7 _ 1 1 rfl⟩ ?_
  rintro r T G' ⟨i, Aq, cq, e0, e1, e5, e7, e8, hr2, hin, hNq⟩
  have hPc := (hp ⟨fcells n (bfs N.arcs fl n N.s i).b ++ rest, true⟩).sub hNq.sub
  have hQ := hNq.ints' rfl
  have hL := (hI i).len
  have hsq := hQ.sn
  simp (maxSteps := 300000) (disch := omega) only [gs, gs2, gs3, ↓reduceIte, Nat.reduceEqDiff, Nat.mul_one, Nat.add_zero, Nat.zero_add, Nat.zero_mul, Int.toNat_natCast, Int.reduceToNat, Nat.reduceMul, Nat.reduceAdd, decide_true, decide_false, Bool.not_true, Bool.not_false, true_and, and_true, List.map_cons, List.map_nil, List.nil_append, List.cons_append, List.append_nil, Option.map_some, Option.bind_some, List.getElem?_cons_zero, List.getElem?_cons_succ, Bool.false_eq_true, not_true_eq_false, not_false_eq_true, List.contains_cons, List.contains_nil, Nat.reduceBEq, Bool.true_or, Bool.false_or, Bool.or_true, List.set_cons_zero, List.set_cons_succ, List.length_cons, List.length_nil, isLd, Bool.true_and, Bool.false_and, Bool.and_true, Bool.and_false, e0, e1, e5, e7, e8]
  by_cases hi : (i : Int) < (bfs N.arcs fl n N.s i).q.length
  · simp (maxSteps := 300000) (disch := omega) only [gs, gs2, gs3, ↓reduceIte, Nat.reduceEqDiff, Nat.mul_one, Nat.add_zero, Nat.zero_add, Nat.zero_mul, Int.toNat_natCast, Int.reduceToNat, Nat.reduceMul, Nat.reduceAdd, decide_true, decide_false, Bool.not_true, Bool.not_false, true_and, and_true, List.map_cons, List.map_nil, List.nil_append, List.cons_append, List.append_nil, Option.map_some, Option.bind_some, List.getElem?_cons_zero, List.getElem?_cons_succ, Bool.false_eq_true, not_true_eq_false, not_false_eq_true, List.contains_cons, List.contains_nil, Nat.reduceBEq, Bool.true_or, Bool.false_or, Bool.or_true, List.set_cons_zero, List.set_cons_succ, List.length_cons, List.length_nil, isLd, Bool.true_and, Bool.false_and, Bool.and_true, Bool.and_false, e0, e1, e5, e7, e8, hi]
    have hi' : i < (bfs N.arcs fl n N.s i).q.length := by omega
    have hsc := fun k hk => (hI i).scan hi' k hk
    generalize hu : (bfs N.arcs fl n N.s i).q.getD i 0 = u at hsc
    refine gLoop_intro (fun r' T G' => ∃ (v : Nat) (Aq : Option Addr) (cq : Nat), T 0 = .pointer q ∧ T 1 = .slice B fl.length d ∧ T 5 = .slice (some ⟨b, 0, none⟩) n c' ∧ T 7 = .slice Aq (scan N.arcs fl u v (bfs N.arcs fl n N.s i)).q.length cq ∧ T 8 = .int .i64 i ∧ T 9 = .int .i64 v ∧ r' + v = n ∧ v ≤ n ∧
      New (put G b ⟨fcells n (scan N.arcs fl u v (bfs N.arcs fl n N.s i)).b ++ rest, true⟩) G' Aq cq ((scan N.arcs fl u v (bfs N.arcs fl n N.s i)).q.map I64) 1 (scan N.arcs fl u v (bfs N.arcs fl n N.s i)).q.length)
      n ⟨0, _, _, by simp (maxSteps := 300000) (disch := omega) only [gs, gs2, gs3, ↓reduceIte, Nat.reduceEqDiff, Nat.mul_one, Nat.add_zero, Nat.zero_add, Nat.zero_mul, Int.toNat_natCast, Int.reduceToNat, Nat.reduceMul, Nat.reduceAdd, decide_true, decide_false, Bool.not_true, Bool.not_false, true_and, and_true, List.map_cons, List.map_nil, List.nil_append, List.cons_append, List.append_nil, Option.map_some, Option.bind_some, List.getElem?_cons_zero, List.getElem?_cons_succ, Bool.false_eq_true, not_true_eq_false, not_false_eq_true, List.contains_cons, List.contains_nil, Nat.reduceBEq, Bool.true_or, Bool.false_or, Bool.or_true, List.set_cons_zero, List.set_cons_succ, List.length_cons, List.length_nil, isLd, Bool.true_and, Bool.false_and, Bool.and_true, Bool.and_false, e0], by simp (maxSteps := 300000) (disch := omega) only [gs, gs2, gs3, ↓reduceIte, Nat.reduceEqDiff, Nat.mul_one, Nat.add_zero, Nat.zero_add, Nat.zero_mul, Int.toNat_natCast, Int.reduceToNat, Nat.reduceMul, Nat.reduceAdd, decide_true, decide_false, Bool.not_true, Bool.not_false, true_and, and_true, List.map_cons, List.map_nil, List.nil_append, List.cons_append, List.append_nil, Option.map_some, Option.bind_some, List.getElem?_cons_zero, List.getElem?_cons_succ, Bool.false_eq_true, not_true_eq_false, not_false_eq_true, List.contains_cons, List.contains_nil, Nat.reduceBEq, Bool.true_or, Bool.false_or, Bool.or_true, List.set_cons_zero, List.set_cons_succ, List.length_cons, List.length_nil, isLd, Bool.true_and, Bool.false_and, Bool.and_true, Bool.and_false, e1], by simp (maxSteps := 300000) (disch := omega) only [gs, gs2, gs3, ↓reduceIte, Nat.reduceEqDiff, Nat.mul_one, Nat.add_zero, Nat.zero_add, Nat.zero_mul, Int.toNat_natCast, Int.reduceToNat, Nat.reduceMul, Nat.reduceAdd, decide_true, decide_false, Bool.not_true, Bool.not_false, true_and, and_true, List.map_cons, List.map_nil, List.nil_append, List.cons_append, List.append_nil, Option.map_some, Option.bind_some, List.getElem?_cons_zero, List.getElem?_cons_succ, Bool.false_eq_true, not_true_eq_false, not_false_eq_true, List.contains_cons, List.contains_nil, Nat.reduceBEq, Bool.true_or, Bool.false_or, Bool.or_true, List.set_cons_zero, List.set_cons_succ, List.length_cons, List.length_nil, isLd, Bool.true_and, Bool.false_and, Bool.and_true, Bool.and_false, e5], by simp (maxSteps := 300000) (disch := omega) only [gs, gs2, gs3, ↓reduceIte, Nat.reduceEqDiff, Nat.mul_one, Nat.add_zero, Nat.zero_add, Nat.zero_mul, Int.toNat_natCast, Int.reduceToNat, Nat.reduceMul, Nat.reduceAdd, decide_true, decide_false, Bool.not_true, Bool.not_false, true_and, and_true, List.map_cons, List.map_nil, List.nil_append, List.cons_append, List.append_nil, Option.map_some, Option.bind_some, List.getElem?_cons_zero, List.getElem?_cons_succ, Bool.false_eq_true, not_true_eq_false, not_false_eq_true, List.contains_cons, List.contains_nil, Nat.reduceBEq, Bool.true_or, Bool.false_or, Bool.or_true, List.set_cons_zero, List.set_cons_succ, List.length_cons, List.length_nil, isLd, Bool.true_and, Bool.false_and, Bool.and_true, Bool.and_false, e7] <;> rfl, by simp (maxSteps := 300000) (disch := omega) only [gs, gs2, gs3, ↓reduceIte, Nat.reduceEqDiff, Nat.mul_one, Nat.add_zero, Nat.zero_add, Nat.zero_mul, Int.toNat_natCast, Int.reduceToNat, Nat.reduceMul, Nat.reduceAdd, decide_true, decide_false, Bool.not_true, Bool.not_false, true_and, and_true, List.map_cons, List.map_nil, List.nil_append, List.cons_append, List.append_nil, Option.map_some, Option.bind_some, List.getElem?_cons_zero, List.getElem?_cons_succ, Bool.false_eq_true, not_true_eq_false, not_false_eq_true, List.contains_cons, List.contains_nil, Nat.reduceBEq, Bool.true_or, Bool.false_or, Bool.or_true, List.set_cons_zero, List.set_cons_succ, List.length_cons, List.length_nil, isLd, Bool.true_and, Bool.false_and, Bool.and_true, Bool.and_false, e8], by simp (maxSteps := 300000) (disch := omega) only [gs, gs2, gs3, ↓reduceIte, Nat.reduceEqDiff, Nat.mul_one, Nat.add_zero, Nat.zero_add, Nat.zero_mul, Int.toNat_natCast, Int.reduceToNat, Nat.reduceMul, Nat.reduceAdd, decide_true, decide_false, Bool.not_true, Bool.not_false, true_and, and_true, List.map_cons, List.map_nil, List.nil_append, List.cons_append, List.append_nil, Option.map_some, Option.bind_some, List.getElem?_cons_zero, List.getElem?_cons_succ, Bool.false_eq_true, not_true_eq_false, not_false_eq_true, List.contains_cons, List.contains_nil, Nat.reduceBEq, Bool.true_or, Bool.false_or, Bool.or_true, List.set_cons_zero, List.set_cons_succ, List.length_cons, List.length_nil, isLd, Bool.true_and, Bool.false_and, Bool.and_true, Bool.and_false] <;> rfl, by omega, by omega, hNq⟩ ?_
    rintro r' T G' ⟨v, Aq, cq, e0, e1, e5, e7, e8, e9, hr3, hvn, hNq⟩
    obtain ⟨hI2, hi2, hu2⟩ := hsc v hvn
    have hL2 := hI2.len
    have hsv : scan N.arcs fl u (v + 1) (bfs N.arcs fl n N.s i) = visit N.arcs fl u v (scan N.arcs fl u v (bfs N.arcs fl n N.s i)) := rfl
    have hend : scan N.arcs fl u n (bfs N.arcs fl n N.s i) = bfs N.arcs fl n N.s (i + 1) := by
      rw [bfs, if_pos hi', hu]
    generalize hst : scan N.arcs fl u v (bfs N.arcs fl n N.s i) = st at *
    have hPc := (hp ⟨fcells n st.b ++ rest, true⟩).sub hNq.sub
    have f0 := hPc.f0
    have hQ := hNq.ints' rfl
    have rq := hQ.rd
    have hsq := hQ.sn
    simp (maxSteps := 300000) (disch := omega) only [gs, gs2, gs3, ↓reduceIte, Nat.reduceEqDiff, Nat.mul_one, Nat.add_zero, Nat.zero_add, Nat.zero_mul, Int.toNat_natCast, Int.reduceToNat, Nat.reduceMul, Nat.reduceAdd, decide_true, decide_false, Bool.not_true, Bool.not_false, true_and, and_true, List.map_cons, List.map_nil, List.nil_append, List.cons_append, List.append_nil, Option.map_some, Option.bind_some, List.getElem?_cons_zero, List.getElem?_cons_succ, Bool.false_eq_true, not_true_eq_false, not_false_eq_true, List.contains_cons, List.contains_nil, Nat.reduceBEq, Bool.true_or, Bool.false_or, Bool.or_true, List.set_cons_zero, List.set_cons_succ, List.length_cons, List.length_nil, isLd, Bool.true_and, Bool.false_and, Bool.and_true, Bool.and_false, e0, e1, e5, e7, e8, e9, f0]
    by_cases hv : (v : Int) < N.n
    · have rb : rd G' (some ⟨b, v, none⟩) = some (.int .i64 (st.b v)) := by
        have := fcells_get (n := n) (b := st.b) (rest := rest) (v := (v : Int)) (by omega) (by omega)
        simp only [rd, hNq.at, Option.bind_some]
        simpa using this
      have hmem := hI2.inq v (by omega)
      simp (maxSteps := 300000) (disch := omega) only [gs, gs2, gs3, ↓reduceIte, Nat.reduceEqDiff, Nat.mul_one, Nat.add_zero, Nat.zero_add, Nat.zero_mul, Int.toNat_natCast, Int.reduceToNat, Nat.reduceMul, Nat.reduceAdd, decide_true, decide_false, Bool.not_true, Bool.not_false, true_and, and_true, List.map_cons, List.map_nil, List.nil_append, List.cons_append, List.append_nil, Option.map_some, Option.bind_some, List.getElem?_cons_zero, List.getElem?_cons_succ, Bool.false_eq_true, not_true_eq_false, not_false_eq_true, List.contains_cons, List.contains_nil, Nat.reduceBEq, Bool.true_or, Bool.false_or, Bool.or_true, List.set_cons_zero, List.set_cons_succ, List.length_cons, List.length_nil, isLd, Bool.true_and, Bool.false_and, Bool.and_true, Bool.and_false, e0, e1, e5, e7, e8, e9, hv, rb]
      by_cases hb0 : st.b v < 0
      · simp (maxSteps := 300000) (disch := omega) only [gs, gs2, gs3, ↓reduceIte, Nat.reduceEqDiff, Nat.mul_one, Nat.add_zero, Nat.zero_add, Nat.zero_mul, Int.toNat_natCast, Int.reduceToNat, Nat.reduceMul, Nat.reduceAdd, decide_true, decide_false, Bool.not_true, Bool.not_false, true_and, and_true, List.map_cons, List.map_nil, List.nil_append, List.cons_append, List.append_nil, Option.map_some, Option.bind_some, List.getElem?_cons_zero, List.getElem?_cons_succ, Bool.false_eq_true, not_true_eq_false, not_false_eq_true, List.contains_cons, List.contains_nil, Nat.reduceBEq, Bool.true_or, Bool.false_or, Bool.or_true, List.set_cons_zero, List.set_cons_succ, List.length_cons, List.length_nil, isLd, Bool.true_and, Bool.false_and, Bool.and_true, Bool.and_false, hb0, e0, e1, e5, e7, e8, e9, rq]
        rw [hu2]
        refine spec_l19Room_ok hPc ((hf.sub (Sub.put hbn _)).sub hNq.sub) hn hc ?_
        simp (maxSteps := 300000) (disch := omega) only [gs, gs2, gs3, ↓reduceIte, Nat.reduceEqDiff, Nat.mul_one, Nat.add_zero, Nat.zero_add, Nat.zero_mul, Int.toNat_natCast, Int.reduceToNat, Nat.reduceMul, Nat.reduceAdd, decide_true, decide_false, Bool.not_true, Bool.not_false, true_and, and_true, List.map_cons, List.map_nil, List.nil_append, List.cons_append, List.append_nil, Option.map_some, Option.bind_some, List.getElem?_cons_zero, List.getElem?_cons_succ, Bool.false_eq_true, not_true_eq_false, not_false_eq_true, List.contains_cons, List.contains_nil, Nat.reduceBEq, Bool.true_or, Bool.false_or, Bool.or_true, List.set_cons_zero, List.set_cons_succ, List.length_cons, List.length_nil, isLd, Bool.true_and, Bool.false_and, Bool.and_true, Bool.and_false, e0, e1, e5, e7, e8, e9]
        have hnm : ¬ (v : Int) ∈ st.q := fun x => by have := hmem.1 x; omega
        by_cases hrm : 0 < rm N.arcs fl u v
        · rw [visit_yes hnm hrm] at hsv
          simp (maxSteps := 300000) (disch := omega) only [gs, gs2, gs3, ↓reduceIte, Nat.reduceEqDiff, Nat.mul_one, Nat.add_zero, Nat.zero_add, Nat.zero_mul, Int.toNat_natCast, Int.reduceToNat, Nat.reduceMul, Nat.reduceAdd, decide_true, decide_false, Bool.not_true, Bool.not_false, true_and, and_true, List.map_cons, List.map_nil, List.nil_append, List.cons_append, List.append_nil, Option.map_some, Option.bind_some, List.getElem?_cons_zero, List.getElem?_cons_succ, Bool.false_eq_true, not_true_eq_false, not_false_eq_true, List.contains_cons, List.contains_nil, Nat.reduceBEq, Bool.true_or, Bool.false_or, Bool.or_true, List.set_cons_zero, List.set_cons_succ, List.length_cons, List.length_nil, isLd, Bool.true_and, Bool.false_and, Bool.and_true, Bool.and_false, hrm, e0, e1, e5, e7, e8, e9, rq]
          rw [hu2]
          refine st_one hNq.at (by rw [List.length_append, fcells_len]; omega) rfl ?_
          have hN2 := hNq.base (e' := ⟨fcells n (fun w => if w = v then u else st.b w) ++ rest, true⟩)
          rw [show v = ((v : Int)).toNat from (Int.toNat_natCast v).symm, fcells_set (by omega) (by omega)]
          simp (maxSteps := 300000) (disch := omega) only [gs, gs2, gs3, ↓reduceIte, Nat.reduceEqDiff, Nat.mul_one, Nat.add_zero, Nat.zero_add, Nat.zero_mul, Int.toNat_natCast, Int.reduceToNat, Nat.reduceMul, Nat.reduceAdd, decide_true, decide_false, Bool.not_true, Bool.not_false, true_and, and_true, List.map_cons, List.map_nil, List.nil_append, List.cons_append, List.append_nil, Option.map_some, Option.bind_some, List.getElem?_cons_zero, List.getElem?_cons_succ, Bool.false_eq_true, not_true_eq_false, not_false_eq_true, List.contains_cons, List.contains_nil, Nat.reduceBEq, Bool.true_or, Bool.false_or, Bool.or_true, List.set_cons_zero, List.set_cons_succ, List.length_cons, List.length_nil, isLd, Bool.true_and, Bool.false_and, Bool.and_true, Bool.and_false, e0, e1, e5, e7, e8, e9, gBs]
          refine ⟨by intro x hx; simp at hx; subst hx; rfl, fun b9 hb9 => ?_⟩
          refine ap_new hN2 (Sub.put hb9 _) (cells_one [.int .i64 (v : Int)] true) (by rfl) (by intro x hx; simp at hx; subst hx; rfl) rfl (by omega) (by omega) (by omega) fun G'' A'' c'' hN3 => ?_
          simp (maxSteps := 300000) (disch := omega) only [gs, gs2, gs3, ↓reduceIte, Nat.reduceEqDiff, Nat.mul_one, Nat.add_zero, Nat.zero_add, Nat.zero_mul, Int.toNat_natCast, Int.reduceToNat, Nat.reduceMul, Nat.reduceAdd, decide_true, decide_false, Bool.not_true, Bool.not_false, true_and, and_true, List.map_cons, List.map_nil, List.nil_append, List.cons_append, List.append_nil, Option.map_some, Option.bind_some, List.getElem?_cons_zero, List.getElem?_cons_succ, Bool.false_eq_true, not_true_eq_false, not_false_eq_true, List.contains_cons, List.contains_nil, Nat.reduceBEq, Bool.true_or, Bool.false_or, Bool.or_true, List.set_cons_zero, List.set_cons_succ, List.length_cons, List.length_nil, isLd, Bool.true_and, Bool.false_and, Bool.and_true, Bool.and_false, e0, e1, e5, e7, e8, e9]
          exact ⟨r' - 1, by omega, _, Sub.refl _, v + 1, A'', c'', by rw [hsv]; simp, rfl, by omega, by omega, by rw [hsv]; exact hN3.cast (by simp [I64]) (by simp)⟩
        · simp (maxSteps := 300000) (disch := omega) only [gs, gs2, gs3, ↓reduceIte, Nat.reduceEqDiff, Nat.mul_one, Nat.add_zero, Nat.zero_add, Nat.zero_mul, Int.toNat_natCast, Int.reduceToNat, Nat.reduceMul, Nat.reduceAdd, decide_true, decide_false, Bool.not_true, Bool.not_false, true_and, and_true, List.map_cons, List.map_nil, List.nil_append, List.cons_append, List.append_nil, Option.map_some, Option.bind_some, List.getElem?_cons_zero, List.getElem?_cons_succ, Bool.false_eq_true, not_true_eq_false, not_false_eq_true, List.contains_cons, List.contains_nil, Nat.reduceBEq, Bool.true_or, Bool.false_or, Bool.or_true, List.set_cons_zero, List.set_cons_succ, List.length_cons, List.length_nil, isLd, Bool.true_and, Bool.false_and, Bool.and_true, Bool.and_false, hrm, e0, e1, e5, e7, e8, e9]
          rw [visit_no (fun x => hrm x.2)] at hsv
          exact ⟨r' - 1, by omega, _, Sub.refl _, v + 1, Aq, cq, by rw [hsv], rfl, by omega, by omega, by rw [hsv]; exact hNq⟩
      · simp (maxSteps := 300000) (disch := omega) only [gs, gs2, gs3, ↓reduceIte, Nat.reduceEqDiff, Nat.mul_one, Nat.add_zero, Nat.zero_add, Nat.zero_mul, Int.toNat_natCast, Int.reduceToNat, Nat.reduceMul, Nat.reduceAdd, decide_true, decide_false, Bool.not_true, Bool.not_false, true_and, and_true, List.map_cons, List.map_nil, List.nil_append, List.cons_append, List.append_nil, Option.map_some, Option.bind_some, List.getElem?_cons_zero, List.getElem?_cons_succ, Bool.false_eq_true, not_true_eq_false, not_false_eq_true, List.contains_cons, List.contains_nil, Nat.reduceBEq, Bool.true_or, Bool.false_or, Bool.or_true, List.set_cons_zero, List.set_cons_succ, List.length_cons, List.length_nil, isLd, Bool.true_and, Bool.false_and, Bool.and_true, Bool.and_false, hb0, e0, e1, e5, e7, e8, e9]
        rw [visit_no (fun x => x.1 (hmem.2 (by omega)))] at hsv
        exact ⟨r' - 1, by omega, _, Sub.refl _, v + 1, Aq, cq, by rw [hsv], rfl, by omega, by omega, by rw [hsv]; exact hNq⟩
    · simp (maxSteps := 300000) (disch := omega) only [gs, gs2, gs3, ↓reduceIte, Nat.reduceEqDiff, Nat.mul_one, Nat.add_zero, Nat.zero_add, Nat.zero_mul, Int.toNat_natCast, Int.reduceToNat, Nat.reduceMul, Nat.reduceAdd, decide_true, decide_false, Bool.not_true, Bool.not_false, true_and, and_true, List.map_cons, List.map_nil, List.nil_append, List.cons_append, List.append_nil, Option.map_some, Option.bind_some, List.getElem?_cons_zero, List.getElem?_cons_succ, Bool.false_eq_true, not_true_eq_false, not_false_eq_true, List.contains_cons, List.contains_nil, Nat.reduceBEq, Bool.true_or, Bool.false_or, Bool.or_true, List.set_cons_zero, List.set_cons_succ, List.length_cons, List.length_nil, isLd, Bool.true_and, Bool.false_and, Bool.and_true, Bool.and_false, e0, e1, e5, e7, e8, e9, hv]
      obtain rfl : v = n := by omega
      rw [hst] at hend
      subst hend
      exact ⟨r - 1, by omega, _, Sub.refl _, i + 1, Aq, cq, rfl, rfl, by omega, by omega, hNq⟩
  · simp (maxSteps := 300000) (disch := omega) only [gs, gs2, gs3, ↓reduceIte, Nat.reduceEqDiff, Nat.mul_one, Nat.add_zero, Nat.zero_add, Nat.zero_mul, Int.toNat_natCast, Int.reduceToNat, Nat.reduceMul, Nat.reduceAdd, decide_true, decide_false, Bool.not_true, Bool.not_false, true_and, and_true, List.map_cons, List.map_nil, List.nil_append, List.cons_append, List.append_nil, Option.map_some, Option.bind_some, List.getElem?_cons_zero, List.getElem?_cons_succ, Bool.false_eq_true, not_true_eq_false, not_false_eq_true, List.contains_cons, List.contains_nil, Nat.reduceBEq, Bool.true_or, Bool.false_or, Bool.or_true, List.set_cons_zero, List.set_cons_succ, List.length_cons, List.length_nil, isLd, Bool.true_and, Bool.false_and, Bool.and_true, Bool.and_false, e0, e1, e5, e7, e8, hi]
    have hE := bfs_end (es := N.arcs) (fl := fl) hs (i := i) (by omega) hin
    rw [hE] at hNq
    refine ⟨_, hNq.sub, hk _ _ _ (.inr ⟨b, rest, rfl, hbn, rfl, by rw [fcells_len]; omega, ?_, hcap⟩)⟩
    simpa [fcells_len] using hcl
/-- a box under the ground is forgotten. -/
theorem New.unbox {G Gc : GH} {b1 bF : Nat} {e1 e : Ent} {A : Option Addr} {c sz n : Nat} {cs : List Value} (hb : G b1 = none) (hF : G bF = none) (h : New (put (put G b1 e1) bF e) Gc A c cs sz n) (hne : bF ≠ b1) :
    ∃ G'', Sub G'' Gc ∧ New (put G bF e) G'' A c cs sz n := by
  rcases h with ⟨h1, h2, h3, h4, rfl⟩ | ⟨b, r, h1, h2, rfl, h3⟩
  · exact ⟨_, Sub.both (Sub.put hb _), .inl ⟨h1, h2, h3, h4, rfl⟩⟩
  · have n1 : b ≠ bF := fun x => by rw [x, put_same] at h2; cases h2
    have n2 : b ≠ b1 := fun x => by rw [put_ne _ _ n1, x, put_same] at h2; cases h2
    exact ⟨_, Sub.both (Sub.both (Sub.put hb _)), .inr ⟨b, r, h1, by rw [put_ne _ _ n1] at h2 ⊢; rwa [put_ne _ _ n2] at h2, rfl, h3⟩⟩
def fromF (s : Int) (st : BS) : Int → Int := fun w => if w = s then -1 else st.b w
theorem impl_marked_ok {G : GH} {N : Net} {A B : Option Addr} {c d : Nat} {fl : List Int} (h : T3S G A c N.arcs) (hf : IntS G B d fl) (hn : NetOk N) (hc : Cap N.arcs fl) {K : Value → GH → Prop}
    (hk : ∀ G' bF Ao co, G bF = none → New (put G bF ⟨fcells N.n.toNat (fromF N.s (reach N.arcs fl N.n.toNat N.s)), true⟩) G' Ao co ((reach N.arcs fl N.n.toNat N.s).q.map I64) 1 (reach N.arcs fl N.n.toNat N.s).q.length →
      K (.tuple #[.slice Ao (reach N.arcs fl N.n.toNat N.s).q.length co, .slice (some ⟨bF, 0, none⟩) N.n.toNat N.n.toNat]) G') : GC Try.prog 242 [netV N A c, .slice B fl.length d] G K := by
  refine GC_drop (c_impl_marked_i (by simp) ?_)
  have hn1 := hn.1
  have hn2 := hn.2.1
  unfold netV netC
  simp (maxSteps := 300000) (disch := omega) only [gs, gs2, gs3, ↓reduceIte, Nat.reduceEqDiff, Nat.mul_one, Nat.add_zero, Nat.zero_add, Nat.zero_mul, Int.toNat_natCast, Int.reduceToNat, Nat.reduceMul, Nat.reduceAdd, decide_true, decide_false, Bool.not_true, Bool.not_false, true_and, and_true, List.map_cons, List.map_nil, List.nil_append, List.cons_append, List.append_nil, Option.map_some, Option.bind_some, List.getElem?_cons_zero, List.getElem?_cons_succ, Bool.false_eq_true, not_true_eq_false, not_false_eq_true, List.contains_cons, List.contains_nil, Nat.reduceBEq, Bool.true_or, Bool.false_or, Bool.or_true, List.set_cons_zero, List.set_cons_succ, List.length_cons, List.length_nil, isLd, Bool.true_and, Bool.false_and, Bool.and_true, Bool.and_false]
  intro b1 hb1
  simp (maxSteps := 300000) (disch := omega) only [gs, gs2, gs3, ↓reduceIte, Nat.reduceEqDiff, Nat.mul_one, Nat.add_zero, Nat.zero_add, Nat.zero_mul, Int.toNat_natCast, Int.reduceToNat, Nat.reduceMul, Nat.reduceAdd, decide_true, decide_false, Bool.not_true, Bool.not_false, true_and, and_true, List.map_cons, List.map_nil, List.nil_append, List.cons_append, List.append_nil, Option.map_some, Option.bind_some, List.getElem?_cons_zero, List.getElem?_cons_succ, Bool.false_eq_true, not_true_eq_false, not_false_eq_true, List.contains_cons, List.contains_nil, Nat.reduceBEq, Bool.true_or, Bool.false_or, Bool.or_true, List.set_cons_zero, List.set_cons_succ, List.length_cons, List.length_nil, isLd, Bool.true_and, Bool.false_and, Bool.and_true, Bool.and_false]
  refine ⟨N.n.toNat, N.n.toNat, by rw [Int.toNat_of_nonneg (by omega)], by rw [Int.toNat_of_nonneg (by omega)], Nat.le_refl _, by omega, by omega, fun bF hbF => ?_⟩
  have qF := hbF
  simp only [put_none] at qF
  have s1 : Sub G (put G b1 ⟨[.int .i64 N.n, .int .i64 N.s, .int .i64 N.t, .slice A N.arcs.length c], true⟩) := Sub.put hb1 _
  simp (maxSteps := 300000) (disch := omega) only [gs, gs2, gs3, ↓reduceIte, Nat.reduceEqDiff, Nat.mul_one, Nat.add_zero, Nat.zero_add, Nat.zero_mul, Int.toNat_natCast, Int.reduceToNat, Nat.reduceMul, Nat.reduceAdd, decide_true, decide_false, Bool.not_true, Bool.not_false, true_and, and_true, List.map_cons, List.map_nil, List.nil_append, List.cons_append, List.append_nil, Option.map_some, Option.bind_some, List.getElem?_cons_zero, List.getElem?_cons_succ, Bool.false_eq_true, not_true_eq_false, not_false_eq_true, List.contains_cons, List.contains_nil, Nat.reduceBEq, Bool.true_or, Bool.false_or, Bool.or_true, List.set_cons_zero, List.set_cons_succ, List.length_cons, List.length_nil, isLd, Bool.true_and, Bool.false_and, Bool.and_true, Bool.and_false]
  refine gLoop_intro (fun r T G' => ∃ k : Nat, T 1 = .slice B fl.length d ∧ T 2 = .pointer (some ⟨b1, 0, none⟩) ∧ T 6 = .slice (some ⟨bF, 0, none⟩) N.n.toNat N.n.toNat ∧ T 15 = .int .i64 (N.n.toNat : Nat) ∧ T 16 = .int .i64 k ∧ r + k = N.n.toNat ∧ k ≤ N.n.toNat ∧
    G' = put (put G b1 ⟨[.int .i64 N.n, .int .i64 N.s, .int .i64 N.t, .slice A N.arcs.length c], true⟩) bF ⟨fcells N.n.toNat (fun w => if w < k then -1 else 0), true⟩)
    N.n.toNat ⟨0, by simp (maxSteps := 300000) (disch := omega) only [gs, gs2, gs3, ↓reduceIte, Nat.reduceEqDiff, Nat.mul_one, Nat.add_zero, Nat.zero_add, Nat.zero_mul, Int.toNat_natCast, Int.reduceToNat, Nat.reduceMul, Nat.reduceAdd, decide_true, decide_false, Bool.not_true, Bool.not_false, true_and, and_true, List.map_cons, List.map_nil, List.nil_append, List.cons_append, List.append_nil, Option.map_some, Option.bind_some, List.getElem?_cons_zero, List.getElem?_cons_succ, Bool.false_eq_true, not_true_eq_false, not_false_eq_true, List.contains_cons, List.contains_nil, Nat.reduceBEq, Bool.true_or, Bool.false_or, Bool.or_true, List.set_cons_zero, List.set_cons_succ, List.length_cons, List.length_nil, isLd, Bool.true_and, Bool.false_and, Bool.and_true, Bool.and_false], by simp (maxSteps := 300000) (disch := omega) only [gs, gs2, gs3, ↓reduceIte, Nat.reduceEqDiff, Nat.mul_one, Nat.add_zero, Nat.zero_add, Nat.zero_mul, Int.toNat_natCast, Int.reduceToNat, Nat.reduceMul, Nat.reduceAdd, decide_true, decide_false, Bool.not_true, Bool.not_false, true_and, and_true, List.map_cons, List.map_nil, List.nil_append, List.cons_append, List.append_nil, Option.map_some, Option.bind_some, List.getElem?_cons_zero, List.getElem?_cons_succ, Bool.false_eq_true, not_true_eq_false, not_false_eq_true, List.contains_cons, List.contains_nil, Nat.reduceBEq, Bool.true_or, Bool.false_or, Bool.or_true, List.set_cons_zero, List.set_cons_succ, List.length_cons, List.length_nil, isLd, Bool.true_and, Bool.false_and, Bool.and_true, Bool.and_false], by simp (maxSteps := 300000) (disch := omega) only [gs, gs2, gs3, ↓reduceIte, Nat.reduceEqDiff, Nat.mul_one, Nat.add_zero, Nat.zero_add, Nat.zero_mul, Int.toNat_natCast, Int.reduceToNat, Nat.reduceMul, Nat.reduceAdd, decide_true, decide_false, Bool.not_true, Bool.not_false, true_and, and_true, List.map_cons, List.map_nil, List.nil_append, List.cons_append, List.append_nil, Option.map_some, Option.bind_some, List.getElem?_cons_zero, List.getElem?_cons_succ, Bool.false_eq_true, not_true_eq_false, not_false_eq_true, List.contains_cons, List.contains_nil, Nat.reduceBEq, Bool.true_or, Bool.false_or, Bool.or_true, List.set_cons_zero, List.set_cons_succ, List.length_cons, List.length_nil, isLd, Bool.true_and, Bool.false_and, Bool.and_true, Bool.and_false], by simp (maxSteps := 300000) (disch := omega) only [gs, gs2, gs3, ↓reduceIte, Nat.reduceEqDiff, Nat.mul_one, Nat.add_zero, Nat.zero_add, Nat.zero_mul, Int.toNat_natCast, Int.reduceToNat, Nat.reduceMul, Nat.reduceAdd, decide_true, decide_false, Bool.not_true, Bool.not_false, true_and, and_true, List.map_cons, List.map_nil, List.nil_append, List.cons_append, List.append_nil, Option.map_some, Option.bind_some, List.getElem?_cons_zero, List.getElem?_cons_succ, Bool.false_eq_true, not_true_eq_false, not_false_eq_true, List.contains_cons, List.contains_nil, Nat.reduceBEq, Bool.true_or, Bool.false_or, Bool.or_true, List.set_cons_zero, List.set_cons_succ, List.length_cons, List.length_nil, isLd, Bool.true_and, Bool.false_and, Bool.and_true, Bool.and_false], by simp (maxSteps := 300000) (disch := omega) only [gs, gs2, gs3, ↓reduceIte, Nat.reduceEqDiff, Nat.mul_one, Nat.add_zero, Nat.zero_add, Nat.zero_mul, Int.toNat_natCast, Int.reduceToNat, Nat.reduceMul, Nat.reduceAdd, decide_true, decide_false, Bool.not_true, Bool.not_false, true_and, and_true, List.map_cons, List.map_nil, List.nil_append, List.cons_append, List.append_nil, Option.map_some, Option.bind_some, List.getElem?_cons_zero, List.getElem?_cons_succ, Bool.false_eq_true, not_true_eq_false, not_false_eq_true, List.contains_cons, List.contains_nil, Nat.reduceBEq, Bool.true_or, Bool.false_or, Bool.or_true, List.set_cons_zero, List.set_cons_succ, List.length_cons, List.length_nil, isLd, Bool.true_and, Bool.false_and, Bool.and_true, Bool.and_false] <;> rfl, by omega, by omega, by
      congr 2; rw [zc_one, rep_range]; exact range_cong fun v hv => by simp only [I64]; rw [if_neg (by omega)]⟩ ?_
  rintro r T G' ⟨k, e1, e2, e6, e15, e16, hr0, hkn, rfl⟩
  simp (maxSteps := 300000) (disch := omega) only [gs, gs2, gs3, ↓reduceIte, Nat.reduceEqDiff, Nat.mul_one, Nat.add_zero, Nat.zero_add, Nat.zero_mul, Int.toNat_natCast, Int.reduceToNat, Nat.reduceMul, Nat.reduceAdd, decide_true, decide_false, Bool.not_true, Bool.not_false, true_and, and_true, List.map_cons, List.map_nil, List.nil_append, List.cons_append, List.append_nil, Option.map_some, Option.bind_some, List.getElem?_cons_zero, List.getElem?_cons_succ, Bool.false_eq_true, not_true_eq_false, not_false_eq_true, List.contains_cons, List.contains_nil, Nat.reduceBEq, Bool.true_or, Bool.false_or, Bool.or_true, List.set_cons_zero, List.set_cons_succ, List.length_cons, List.length_nil, isLd, Bool.true_and, Bool.false_and, Bool.and_true, Bool.and_false, e1, e2, e6, e15, e16]
  by_cases hkk : (k : Int) < (N.n.toNat : Nat)
  · simp (maxSteps := 300000) (disch := omega) only [gs, gs2, gs3, ↓reduceIte, Nat.reduceEqDiff, Nat.mul_one, Nat.add_zero, Nat.zero_add, Nat.zero_mul, Int.toNat_natCast, Int.reduceToNat, Nat.reduceMul, Nat.reduceAdd, decide_true, decide_false, Bool.not_true, Bool.not_false, true_and, and_true, List.map_cons, List.map_nil, List.nil_append, List.cons_append, List.append_nil, Option.map_some, Option.bind_some, List.getElem?_cons_zero, List.getElem?_cons_succ, Bool.false_eq_true, not_true_eq_false, not_false_eq_true, List.contains_cons, List.contains_nil, Nat.reduceBEq, Bool.true_or, Bool.false_or, Bool.or_true, List.set_cons_zero, List.set_cons_succ, List.length_cons, List.length_nil, isLd, Bool.true_and, Bool.false_and, Bool.and_true, Bool.and_false, e1, e2, e6, e15, e16, hkk]
    refine st_one (put_same _ _ _) (by rw [fcells_len]; omega) rfl ?_
    simp (maxSteps := 300000) (disch := omega) only [gs, gs2, gs3, ↓reduceIte, Nat.reduceEqDiff, Nat.mul_one, Nat.add_zero, Nat.zero_add, Nat.zero_mul, Int.toNat_natCast, Int.reduceToNat, Nat.reduceMul, Nat.reduceAdd, decide_true, decide_false, Bool.not_true, Bool.not_false, true_and, and_true, List.map_cons, List.map_nil, List.nil_append, List.cons_append, List.append_nil, Option.map_some, Option.bind_some, List.getElem?_cons_zero, List.getElem?_cons_succ, Bool.false_eq_true, not_true_eq_false, not_false_eq_true, List.contains_cons, List.contains_nil, Nat.reduceBEq, Bool.true_or, Bool.false_or, Bool.or_true, List.set_cons_zero, List.set_cons_succ, List.length_cons, List.length_nil, isLd, Bool.true_and, Bool.false_and, Bool.and_true, Bool.and_false, e1, e2, e6, e15, e16, put_put']
    refine ⟨r - 1, by omega, _, Sub.refl _, k + 1, rfl, by omega, by omega, ?_⟩
    congr 2
    have := fcells_set (n := N.n.toNat) (b := fun w => if w < (k : Int) then -1 else 0) (rest := []) (v := (k : Int)) (x := -1) (by omega) (by omega)
    simp only [List.append_nil, Int.toNat_natCast] at this
    rw [this]
    exact range_cong fun w hw => by
      simp only [I64]
      congr 1
      (repeat' split) <;> omega
  obtain rfl : k = N.n.toNat := by omega
  have hcell : fcells N.n.toNat (fun w => if w < ((N.n.toNat : Nat) : Int) then -1 else 0) = fcells N.n.toNat (fromF N.s ⟨[N.s], fun w => if w = N.s then N.s else -1⟩) := range_cong fun w hw => by
    simp only [I64, fromF]; rw [if_pos (by omega)]; congr 1; split <;> rfl
  rw [hcell]
  generalize hnn : N.n.toNat = n at *
  have hs : 0 ≤ N.s ∧ N.s < (n : Nat) := by omega
  have hI := fun i => BI.bfs (es := N.arcs) (fl := fl) (n := n) hs i
  generalize hG1 : put G b1 ⟨[.int .i64 N.n, .int .i64 N.s, .int .i64 N.t, .slice A N.arcs.length c], true⟩ = G1 at *
  have f0 : rd G1 (some ⟨b1, 0, none⟩) = some (.int .i64 N.n) := by rw [← hG1]; exact rd_box _ _ _ 0 _ rfl
  have f1 : rd G1 (some ⟨b1, 1, none⟩) = some (.int .i64 N.s) := by rw [← hG1]; exact rd_box _ _ _ 1 _ rfl
  have f2 : rd G1 (some ⟨b1, 2, none⟩) = some (.int .i64 N.t) := by rw [← hG1]; exact rd_box _ _ _ 2 _ rfl
  have f3 : rd G1 (some ⟨b1, 3, none⟩) = some (.slice A N.arcs.length c) := by rw [← hG1]; exact rd_box _ _ _ 3 _ rfl
  have sF : ∀ e, Sub G1 (put G1 bF e) := fun e => Sub.put hbF _
  have f1' := rd_sub (sF ⟨fcells n (fromF N.s ⟨[N.s], fun w => if w = N.s then N.s else -1⟩), true⟩) f1
  simp (maxSteps := 300000) (disch := omega) only [gs, gs2, gs3, ↓reduceIte, Nat.reduceEqDiff, Nat.mul_one, Nat.add_zero, Nat.zero_add, Nat.zero_mul, Int.toNat_natCast, Int.reduceToNat, Nat.reduceMul, Nat.reduceAdd, decide_true, decide_false, Bool.not_true, Bool.not_false, true_and, and_true, List.map_cons, List.map_nil, List.nil_append, List.cons_append, List.append_nil, Option.map_some, Option.bind_some, List.getElem?_cons_zero, List.getElem?_cons_succ, Bool.false_eq_true, not_true_eq_false, not_false_eq_true, List.contains_cons, List.contains_nil, Nat.reduceBEq, Bool.true_or, Bool.false_or, Bool.or_true, List.set_cons_zero, List.set_cons_succ, List.length_cons, List.length_nil, isLd, Bool.true_and, Bool.false_and, Bool.and_true, Bool.and_false, e1, e2, e6, e15, e16, hkk, f1', gBs]
  refine ⟨by intro v hv; simp at hv; subst hv; rfl, fun b7 hb7 => ?_⟩
  refine gLoop_intro (fun r T G' => ∃ (i : Nat) (Aq : Option Addr) (cq : Nat), T 1 = .slice B fl.length d ∧ T 2 = .pointer (some ⟨b1, 0, none⟩) ∧ T 6 = .slice (some ⟨bF, 0, none⟩) n n ∧ T 8 = .slice Aq (bfs N.arcs fl n N.s i).q.length cq ∧ T 9 = .int .i64 i ∧ r + i = n ∧ i ≤ n ∧
    New (put G1 bF ⟨fcells n (fromF N.s (bfs N.arcs fl n N.s i)), true⟩) G' Aq cq ((bfs N.arcs fl n N.s i).q.map I64) 1 (bfs N.arcs fl n N.s i).q.length)
    n ⟨0, _, _, by simp (maxSteps := 300000) (disch := omega) only [gs, gs2, gs3, ↓reduceIte, Nat.reduceEqDiff, Nat.mul_one, Nat.add_zero, Nat.zero_add, Nat.zero_mul, Int.toNat_natCast, Int.reduceToNat, Nat.reduceMul, Nat.reduceAdd, decide_true, decide_false, Bool.not_true, Bool.not_false, true_and, and_true, List.map_cons, List.map_nil, List.nil_append, List.cons_append, List.append_nil, Option.map_some, Option.bind_some, List.getElem?_cons_zero, List.getElem?_cons_succ, Bool.false_eq_true, not_true_eq_false, not_false_eq_true, List.contains_cons, List.contains_nil, Nat.reduceBEq, Bool.true_or, Bool.false_or, Bool.or_true, List.set_cons_zero, List.set_cons_succ, List.length_cons, List.length_nil, isLd, Bool.true_and, Bool.false_and, Bool.and_true, Bool.and_false, e1], by simp (maxSteps := 300000) (disch := omega) only [gs, gs2, gs3, ↓reduceIte, Nat.reduceEqDiff, Nat.mul_one, Nat.add_zero, Nat.zero_add, Nat.zero_mul, Int.toNat_natCast, Int.reduceToNat, Nat.reduceMul, Nat.reduceAdd, decide_true, decide_false, Bool.not_true, Bool.not_false, true_and, and_true, List.map_cons, List.map_nil, List.nil_append, List.cons_append, List.append_nil, Option.map_some, Option.bind_some, List.getElem?_cons_zero, List.getElem?_cons_succ, Bool.false_eq_true, not_true_eq_false, not_false_eq_true, List.contains_cons, List.contains_nil, Nat.reduceBEq, Bool.true_or, Bool.false_or, Bool.or_true, List.set_cons_zero, List.set_cons_succ, List.length_cons, List.length_nil, isLd, Bool.true_and, Bool.false_and, Bool.and_true, Bool.and_false, e2], by simp (maxSteps := 300000) (disch := omega) only [gs, gs2, gs3, ↓reduceIte, Nat.reduceEqDiff, Nat.mul_one, Nat.add_zero, Nat.zero_add, Nat.zero_mul, Int.toNat_natCast, Int.reduceToNat, Nat.reduceMul, Nat.reduceAdd, decide_true, decide_false, Bool.not_true, Bool.not_false, true_and, and_true, List.map_cons, List.map_nil, List.nil_append, List.cons_append, List.append_nil, Option.map_some, Option.bind_some, List.getElem?_cons_zero, List.getElem?_cons_succ, Bool.false_eq_true, not_true_eq_false, not_false_eq_true, List.contains_cons, List.contains_nil, Nat.reduceBEq, Bool.true_or, Bool.false_or, Bool.or_true, List.set_cons_zero, List.set_cons_succ, List.length_cons, List.length_nil, isLd, Bool.true_and, Bool.false_and, Bool.and_true, Bool.and_false, e6], by simp (maxSteps := 300000) (disch := omega) only [gs, gs2, gs3, ↓reduceIte, Nat.reduceEqDiff, Nat.mul_one, Nat.add_zero, Nat.zero_add, Nat.zero_mul, Int.toNat_natCast, Int.reduceToNat, Nat.reduceMul, Nat.reduceAdd, decide_true, decide_false, Bool.not_true, Bool.not_false, true_and, and_true, List.map_cons, List.map_nil, List.nil_append, List.cons_append, List.append_nil, Option.map_some, Option.bind_some, List.getElem?_cons_zero, List.getElem?_cons_succ, Bool.false_eq_true, not_true_eq_false, not_false_eq_true, List.contains_cons, List.contains_nil, Nat.reduceBEq, Bool.true_or, Bool.false_or, Bool.or_true, List.set_cons_zero, List.set_cons_succ, List.length_cons, List.length_nil, isLd, Bool.true_and, Bool.false_and, Bool.and_true, Bool.and_false] <;> rfl, by simp (maxSteps := 300000) (disch := omega) only [gs, gs2, gs3, ↓reduceIte, Nat.reduceEqDiff, Nat.mul_one, Nat.add_zero, Nat.zero_add, Nat.zero_mul, Int.toNat_natCast, Int.reduceToNat, Nat.reduceMul, Nat.reduceAdd, decide_true, decide_false, Bool.not_true, Bool.not_false, true_and, and_true, List.map_cons, List.map_nil, List.nil_append, List.cons_append, List.append_nil, Option.map_some, Option.bind_some, List.getElem?_cons_zero, List.getElem?_cons_succ, Bool.false_eq_true, not_true_eq_false, not_false_eq_true, List.contains_cons, List.contains_nil, Nat.reduceBEq, Bool.true_or, Bool.false_or, Bool.or_true, List.set_cons_zero, List.set_cons_succ, List.length_cons, List.length_nil, isLd, Bool.true_and, Bool.false_and, Bool.and_true, Bool.and_false] <;> rfl, by omega, by omega, New.mk hb7 _ 1 1 rfl⟩ ?_
  rintro r T G' ⟨i, Aq, cq, e1, e2, e6, e8, e9, hr2, hin, hNq⟩
  have hQ := hNq.ints' rfl
  have hL := (hI i).len
  have hsq := hQ.sn
  have f0' := rd_sub hNq.sub (rd_sub (sF _) f0)
  simp (maxSteps := 300000) (disch := omega) only [gs, gs2, gs3, ↓reduceIte, Nat.reduceEqDiff, Nat.mul_one, Nat.add_zero, Nat.zero_add, Nat.zero_mul, Int.toNat_natCast, Int.reduceToNat, Nat.reduceMul, Nat.reduceAdd, decide_true, decide_false, Bool.not_true, Bool.not_false, true_and, and_true, List.map_cons, List.map_nil, List.nil_append, List.cons_append, List.append_nil, Option.map_some, Option.bind_some, List.getElem?_cons_zero, List.getElem?_cons_succ, Bool.false_eq_true, not_true_eq_false, not_false_eq_true, List.contains_cons, List.contains_nil, Nat.reduceBEq, Bool.true_or, Bool.false_or, Bool.or_true, List.set_cons_zero, List.set_cons_succ, List.length_cons, List.length_nil, isLd, Bool.true_and, Bool.false_and, Bool.and_true, Bool.and_false, e1, e2, e6, e8, e9, f0']
  by_cases hi : (i : Int) < (bfs N.arcs fl n N.s i).q.length
  · simp (maxSteps := 300000) (disch := omega) only [gs, gs2, gs3, ↓reduceIte, Nat.reduceEqDiff, Nat.mul_one, Nat.add_zero, Nat.zero_add, Nat.zero_mul, Int.toNat_natCast, Int.reduceToNat, Nat.reduceMul, Nat.reduceAdd, decide_true, decide_false, Bool.not_true, Bool.not_false, true_and, and_true, List.map_cons, List.map_nil, List.nil_append, List.cons_append, List.append_nil, Option.map_some, Option.bind_some, List.getElem?_cons_zero, List.getElem?_cons_succ, Bool.false_eq_true, not_true_eq_false, not_false_eq_true, List.contains_cons, List.contains_nil, Nat.reduceBEq, Bool.true_or, Bool.false_or, Bool.or_true, List.set_cons_zero, List.set_cons_succ, List.length_cons, List.length_nil, isLd, Bool.true_and, Bool.false_and, Bool.and_true, Bool.and_false, e1, e2, e6, e8, e9, hi, f0']
    have hi' : i < (bfs N.arcs fl n N.s i).q.length := by omega
    have hsc := fun k hk => (hI i).scan hi' k hk
    generalize hu : (bfs N.arcs fl n N.s i).q.getD i 0 = u at hsc
    refine gLoop_intro (fun r' T G' => ∃ (v : Nat) (Aq : Option Addr) (cq : Nat), T 1 = .slice B fl.length d ∧ T 2 = .pointer (some ⟨b1, 0, none⟩) ∧ T 6 = .slice (some ⟨bF, 0, none⟩) n n ∧ T 8 = .slice Aq (scan N.arcs fl u v (bfs N.arcs fl n N.s i)).q.length cq ∧ T 9 = .int .i64 i ∧ T 33 = .int .i64 N.n ∧ T 34 = .int .i64 v ∧ r' + v = n ∧ v ≤ n ∧
      New (put G1 bF ⟨fcells n (fromF N.s (scan N.arcs fl u v (bfs N.arcs fl n N.s i))), true⟩) G' Aq cq ((scan N.arcs fl u v (bfs N.arcs fl n N.s i)).q.map I64) 1 (scan N.arcs fl u v (bfs N.arcs fl n N.s i)).q.length)
      n ⟨0, _, _, by simp (maxSteps := 300000) (disch := omega) only [gs, gs2, gs3, ↓reduceIte, Nat.reduceEqDiff, Nat.mul_one, Nat.add_zero, Nat.zero_add, Nat.zero_mul, Int.toNat_natCast, Int.reduceToNat, Nat.reduceMul, Nat.reduceAdd, decide_true, decide_false, Bool.not_true, Bool.not_false, true_and, and_true, List.map_cons, List.map_nil, List.nil_append, List.cons_append, List.append_nil, Option.map_some, Option.bind_some, List.getElem?_cons_zero, List.getElem?_cons_succ, Bool.false_eq_true, not_true_eq_false, not_false_eq_true, List.contains_cons, List.contains_nil, Nat.reduceBEq, Bool.true_or, Bool.false_or, Bool.or_true, List.set_cons_zero, List.set_cons_succ, List.length_cons, List.length_nil, isLd, Bool.true_and, Bool.false_and, Bool.and_true, Bool.and_false, e1], by simp (maxSteps := 300000) (disch := omega) only [gs, gs2, gs3, ↓reduceIte, Nat.reduceEqDiff, Nat.mul_one, Nat.add_zero, Nat.zero_add, Nat.zero_mul, Int.toNat_natCast, Int.reduceToNat, Nat.reduceMul, Nat.reduceAdd, decide_true, decide_false, Bool.not_true, Bool.not_false, true_and, and_true, List.map_cons, List.map_nil, List.nil_append, List.cons_append, List.append_nil, Option.map_some, Option.bind_some, List.getElem?_cons_zero, List.getElem?_cons_succ, Bool.false_eq_true, not_true_eq_false, not_false_eq_true, List.contains_cons, List.contains_nil, Nat.reduceBEq, Bool.true_or, Bool.false_or, Bool.or_true, List.set_cons_zero, List.set_cons_succ, List.length_cons, List.length_nil, isLd, Bool.true_and, Bool.false_and, Bool.and_true, Bool.and_false, e2], by simp (maxSteps := 300000) (disch := omega) only [gs, gs2, gs3, ↓reduceIte, Nat.reduceEqDiff, Nat.mul_one, Nat.add_zero, Nat.zero_add, Nat.zero_mul, Int.toNat_natCast, Int.reduceToNat, Nat.reduceMul, Nat.reduceAdd, decide_true, decide_false, Bool.not_true, Bool.not_false, true_and, and_true, List.map_cons, List.map_nil, List.nil_append, List.cons_append, List.append_nil, Option.map_some, Option.bind_some, List.getElem?_cons_zero, List.getElem?_cons_succ, Bool.false_eq_true, not_true_eq_false, not_false_eq_true, List.contains_cons, List.contains_nil, Nat.reduceBEq, Bool.true_or, Bool.false_or, Bool.or_true, List.set_cons_zero, List.set_cons_succ, List.length_cons, List.length_nil, isLd, Bool.true_and, Bool.false_and, Bool.and_true, Bool.and_false, e6], by simp (maxSteps := 300000) (disch := omega) only [gs, gs2, gs3, ↓reduceIte, Nat.reduceEqDiff, Nat.mul_one, Nat.add_zero, Nat.zero_add, Nat.zero_mul, Int.toNat_natCast, Int.reduceToNat, Nat.reduceMul, Nat.reduceAdd, decide_true, decide_false, Bool.not_true, Bool.not_false, true_and, and_true, List.map_cons, List.map_nil, List.nil_append, List.cons_append, List.append_nil, Option.map_some, Option.bind_some, List.getElem?_cons_zero, List.getElem?_cons_succ, Bool.false_eq_true, not_true_eq_false, not_false_eq_true, List.contains_cons, List.contains_nil, Nat.reduceBEq, Bool.true_or, Bool.false_or, Bool.or_true, List.set_cons_zero, List.set_cons_succ, List.length_cons, List.length_nil, isLd, Bool.true_and, Bool.false_and, Bool.and_true, Bool.and_false, e8] <;> rfl, by simp (maxSteps := 300000) (disch := omega) only [gs, gs2, gs3, ↓reduceIte, Nat.reduceEqDiff, Nat.mul_one, Nat.add_zero, Nat.zero_add, Nat.zero_mul, Int.toNat_natCast, Int.reduceToNat, Nat.reduceMul, Nat.reduceAdd, decide_true, decide_false, Bool.not_true, Bool.not_false, true_and, and_true, List.map_cons, List.map_nil, List.nil_append, List.cons_append, List.append_nil, Option.map_some, Option.bind_some, List.getElem?_cons_zero, List.getElem?_cons_succ, Bool.false_eq_true, not_true_eq_false, not_false_eq_true, List.contains_cons, List.contains_nil, Nat.reduceBEq, Bool.true_or, Bool.false_or, Bool.or_true, List.set_cons_zero, List.set_cons_succ, List.length_cons, List.length_nil, isLd, Bool.true_and, Bool.false_and, Bool.and_true, Bool.and_false, e9], by simp (maxSteps := 300000) (disch := omega) only [gs, gs2, gs3, ↓reduceIte, Nat.reduceEqDiff, Nat.mul_one, Nat.add_zero, Nat.zero_add, Nat.zero_mul, Int.toNat_natCast, Int.reduceToNat, Nat.reduceMul, Nat.reduceAdd, decide_true, decide_false, Bool.not_true, Bool.not_false, true_and, and_true, List.map_cons, List.map_nil, List.nil_append, List.cons_append, List.append_nil, Option.map_some, Option.bind_some, List.getElem?_cons_zero, List.getElem?_cons_succ, Bool.false_eq_true, not_true_eq_false, not_false_eq_true, List.contains_cons, List.contains_nil, Nat.reduceBEq, Bool.true_or, Bool.false_or, Bool.or_true, List.set_cons_zero, List.set_cons_succ, List.length_cons, List.length_nil, isLd, Bool.true_and, Bool.false_and, Bool.and_true, Bool.and_false], by simp (maxSteps := 300000) (disch := omega) only [gs, gs2, gs3, ↓reduceIte, Nat.reduceEqDiff, Nat.mul_one, Nat.add_zero, Nat.zero_add, Nat.zero_mul, Int.toNat_natCast, Int.reduceToNat, Nat.reduceMul, Nat.reduceAdd, decide_true, decide_false, Bool.not_true, Bool.not_false, true_and, and_true, List.map_cons, List.map_nil, List.nil_append, List.cons_append, List.append_nil, Option.map_some, Option.bind_some, List.getElem?_cons_zero, List.getElem?_cons_succ, Bool.false_eq_true, not_true_eq_false, not_false_eq_true, List.contains_cons, List.contains_nil, Nat.reduceBEq, Bool.true_or, Bool.false_or, Bool.or_true, List.set_cons_zero, List.set_cons_succ, List.length_cons, List.length_nil, isLd, Bool.true_and, Bool.false_and, Bool.and_true, Bool.and_false] <;> rfl, by omega, by omega, hNq⟩ ?_
    rintro r' T G' ⟨v, Aq, cq, e1, e2, e6, e8, e9, e33, e34, hr3, hvn, hNq⟩
    obtain ⟨hI2, hi2, hu2⟩ := hsc v hvn
    have hL2 := hI2.len
    have hsv : scan N.arcs fl u (v + 1) (bfs N.arcs fl n N.s i) = visit N.arcs fl u v (scan N.arcs fl u v (bfs N.arcs fl n N.s i)) := rfl
    have hend : scan N.arcs fl u n (bfs N.arcs fl n N.s i) = bfs N.arcs fl n N.s (i + 1) := by
      rw [bfs, if_pos hi', hu]
    generalize hst : scan N.arcs fl u v (bfs N.arcs fl n N.s i) = st at *
    have hQ := hNq.ints' rfl
    have rq := hQ.rd
    have hsq := hQ.sn
    have f0 := rd_sub hNq.sub (rd_sub (sF _) f0)
    have f1 := rd_sub hNq.sub (rd_sub (sF _) f1)
    have f2 := rd_sub hNq.sub (rd_sub (sF _) f2)
    have f3 := rd_sub hNq.sub (rd_sub (sF _) f3)
    simp (maxSteps := 300000) (disch := omega) only [gs, gs2, gs3, ↓reduceIte, Nat.reduceEqDiff, Nat.mul_one, Nat.add_zero, Nat.zero_add, Nat.zero_mul, Int.toNat_natCast, Int.reduceToNat, Nat.reduceMul, Nat.reduceAdd, decide_true, decide_false, Bool.not_true, Bool.not_false, true_and, and_true, List.map_cons, List.map_nil, List.nil_append, List.cons_append, List.append_nil, Option.map_some, Option.bind_some, List.getElem?_cons_zero, List.getElem?_cons_succ, Bool.false_eq_true, not_true_eq_false, not_false_eq_true, List.contains_cons, List.contains_nil, Nat.reduceBEq, Bool.true_or, Bool.false_or, Bool.or_true, List.set_cons_zero, List.set_cons_succ, List.length_cons, List.length_nil, isLd, Bool.true_and, Bool.false_and, Bool.and_true, Bool.and_false, e1, e2, e6, e8, e9, e33, e34]
    by_cases hv : (v : Int) < N.n
    · simp (maxSteps := 300000) (disch := omega) only [gs, gs2, gs3, ↓reduceIte, Nat.reduceEqDiff, Nat.mul_one, Nat.add_zero, Nat.zero_add, Nat.zero_mul, Int.toNat_natCast, Int.reduceToNat, Nat.reduceMul, Nat.reduceAdd, decide_true, decide_false, Bool.not_true, Bool.not_false, true_and, and_true, List.map_cons, List.map_nil, List.nil_append, List.cons_append, List.append_nil, Option.map_some, Option.bind_some, List.getElem?_cons_zero, List.getElem?_cons_succ, Bool.false_eq_true, not_true_eq_false, not_false_eq_true, List.contains_cons, List.contains_nil, Nat.reduceBEq, Bool.true_or, Bool.false_or, Bool.or_true, List.set_cons_zero, List.set_cons_succ, List.length_cons, List.length_nil, isLd, Bool.true_and, Bool.false_and, Bool.and_true, Bool.and_false, e1, e2, e6, e8, e9, e33, e34, hv, rq, f0, f1, f2, f3]
      refine slices_Contains_ok hQ (by omega) fun bb hbb => ?_
      cases bb
      · simp (maxSteps := 300000) (disch := omega) only [gs, gs2, gs3, ↓reduceIte, Nat.reduceEqDiff, Nat.mul_one, Nat.add_zero, Nat.zero_add, Nat.zero_mul, Int.toNat_natCast, Int.reduceToNat, Nat.reduceMul, Nat.reduceAdd, decide_true, decide_false, Bool.not_true, Bool.not_false, true_and, and_true, List.map_cons, List.map_nil, List.nil_append, List.cons_append, List.append_nil, Option.map_some, Option.bind_some, List.getElem?_cons_zero, List.getElem?_cons_succ, Bool.false_eq_true, not_true_eq_false, not_false_eq_true, List.contains_cons, List.contains_nil, Nat.reduceBEq, Bool.true_or, Bool.false_or, Bool.or_true, List.set_cons_zero, List.set_cons_succ, List.length_cons, List.length_nil, isLd, Bool.true_and, Bool.false_and, Bool.and_true, Bool.and_false, e1, e2, e6, e8, e9, e33, e34, rq, f0, f1, f2, f3]
        rw [hu2]
        refine impl_room_ok (N := N) ((h.sub s1).sub ((sF _).trans hNq.sub)) ((hf.sub s1).sub ((sF _).trans hNq.sub)) hn hc ?_
        simp (maxSteps := 300000) (disch := omega) only [gs, gs2, gs3, ↓reduceIte, Nat.reduceEqDiff, Nat.mul_one, Nat.add_zero, Nat.zero_add, Nat.zero_mul, Int.toNat_natCast, Int.reduceToNat, Nat.reduceMul, Nat.reduceAdd, decide_true, decide_false, Bool.not_true, Bool.not_false, true_and, and_true, List.map_cons, List.map_nil, List.nil_append, List.cons_append, List.append_nil, Option.map_some, Option.bind_some, List.getElem?_cons_zero, List.getElem?_cons_succ, Bool.false_eq_true, not_true_eq_false, not_false_eq_true, List.contains_cons, List.contains_nil, Nat.reduceBEq, Bool.true_or, Bool.false_or, Bool.or_true, List.set_cons_zero, List.set_cons_succ, List.length_cons, List.length_nil, isLd, Bool.true_and, Bool.false_and, Bool.and_true, Bool.and_false, e1, e2, e6, e8, e9, e33, e34, rq, f0, f1, f2, f3]
        have hnm : ¬ (v : Int) ∈ st.q := fun x => by simpa using hbb.2 x
        by_cases hrm : 0 < rm N.arcs fl u v
        · rw [visit_yes hnm hrm] at hsv
          simp (maxSteps := 300000) (disch := omega) only [gs, gs2, gs3, ↓reduceIte, Nat.reduceEqDiff, Nat.mul_one, Nat.add_zero, Nat.zero_add, Nat.zero_mul, Int.toNat_natCast, Int.reduceToNat, Nat.reduceMul, Nat.reduceAdd, decide_true, decide_false, Bool.not_true, Bool.not_false, true_and, and_true, List.map_cons, List.map_nil, List.nil_append, List.cons_append, List.append_nil, Option.map_some, Option.bind_some, List.getElem?_cons_zero, List.getElem?_cons_succ, Bool.false_eq_true, not_true_eq_false, not_false_eq_true, List.contains_cons, List.contains_nil, Nat.reduceBEq, Bool.true_or, Bool.false_or, Bool.or_true, List.set_cons_zero, List.set_cons_succ, List.length_cons, List.length_nil, isLd, Bool.true_and, Bool.false_and, Bool.and_true, Bool.and_false, hrm, e1, e2, e6, e8, e9, e33, e34, rq, f0, f1, f2, f3, gBs]
          refine ⟨by intro x hx; simp at hx; subst hx; rfl, fun b9 hb9 => ?_⟩
          refine ap_new hNq (Sub.put hb9 _) (cells_one [.int .i64 (v : Int)] true) (by rfl) (by intro x hx; simp at hx; subst hx; rfl) rfl (by omega) (by omega) (by omega) fun G'' A'' c'' hN3 => ?_
          have hN3' : New (put G1 bF ⟨fcells n (fromF N.s st), true⟩) G'' A'' c'' ((st.q ++ [(v : Int)]).map I64) 1 (st.q.length + 1) := hN3.cast (by simp [I64]) rfl
          have hQ3 := hN3'.ints' (by simp)
          have rq3 := hQ3.rd
          have hsq3 := hQ3.sn
          rw [List.length_append, List.length_singleton] at rq3 hsq3
          have hu3 : (st.q ++ [(v : Int)]).getD i 0 = u := by rw [← hu2]; simp only [List.getD]; rw [List.getElem?_append_left (by omega)]
          simp (maxSteps := 300000) (disch := omega) only [gs, gs2, gs3, ↓reduceIte, Nat.reduceEqDiff, Nat.mul_one, Nat.add_zero, Nat.zero_add, Nat.zero_mul, Int.toNat_natCast, Int.reduceToNat, Nat.reduceMul, Nat.reduceAdd, decide_true, decide_false, Bool.not_true, Bool.not_false, true_and, and_true, List.map_cons, List.map_nil, List.nil_append, List.cons_append, List.append_nil, Option.map_some, Option.bind_some, List.getElem?_cons_zero, List.getElem?_cons_succ, Bool.false_eq_true, not_true_eq_false, not_false_eq_true, List.contains_cons, List.contains_nil, Nat.reduceBEq, Bool.true_or, Bool.false_or, Bool.or_true, List.set_cons_zero, List.set_cons_succ, List.length_cons, List.length_nil, isLd, Bool.true_and, Bool.false_and, Bool.and_true, Bool.and_false, e1, e2, e6, e8, e9, e33, e34, rq3]
          rw [hu3]
          refine st_one hN3'.at (by rw [fcells_len]; omega) rfl ?_
          simp (maxSteps := 300000) (disch := omega) only [gs, gs2, gs3, ↓reduceIte, Nat.reduceEqDiff, Nat.mul_one, Nat.add_zero, Nat.zero_add, Nat.zero_mul, Int.toNat_natCast, Int.reduceToNat, Nat.reduceMul, Nat.reduceAdd, decide_true, decide_false, Bool.not_true, Bool.not_false, true_and, and_true, List.map_cons, List.map_nil, List.nil_append, List.cons_append, List.append_nil, Option.map_some, Option.bind_some, List.getElem?_cons_zero, List.getElem?_cons_succ, Bool.false_eq_true, not_true_eq_false, not_false_eq_true, List.contains_cons, List.contains_nil, Nat.reduceBEq, Bool.true_or, Bool.false_or, Bool.or_true, List.set_cons_zero, List.set_cons_succ, List.length_cons, List.length_nil, isLd, Bool.true_and, Bool.false_and, Bool.and_true, Bool.and_false, e1, e2, e6, e8, e9, e33, e34]
          have hvs : (v : Int) ≠ N.s := fun x => hnm (by rw [x]; exact mem_getD.2 ⟨0, hI2.hd.2, hI2.hd.1⟩)
          have hB := hN3'.base (e' := ⟨fcells n (fromF N.s ⟨st.q ++ [(v : Int)], fun w => if w = v then u else st.b w⟩), true⟩)
          have hset : (fcells n (fromF N.s st)).set v (.int .i64 u) = fcells n (fromF N.s ⟨st.q ++ [(v : Int)], fun w => if w = v then u else st.b w⟩) := by
            have := fcells_set (n := n) (b := fromF N.s st) (rest := []) (v := (v : Int)) (x := u) (by omega) (by omega)
            simp only [List.append_nil, Int.toNat_natCast] at this
            rw [this]
            exact range_cong fun w hw => by
              simp only [I64, fromF]
              congr 1
              (repeat' split) <;> first | rfl | omega
          rw [hset]
          exact ⟨r' - 1, by omega, _, Sub.refl _, v + 1, A'', c'', by rw [hsv]; simp, rfl, by omega, by omega, by rw [hsv]; exact hB.cast rfl (by simp)⟩
        · simp (maxSteps := 300000) (disch := omega) only [gs, gs2, gs3, ↓reduceIte, Nat.reduceEqDiff, Nat.mul_one, Nat.add_zero, Nat.zero_add, Nat.zero_mul, Int.toNat_natCast, Int.reduceToNat, Nat.reduceMul, Nat.reduceAdd, decide_true, decide_false, Bool.not_true, Bool.not_false, true_and, and_true, List.map_cons, List.map_nil, List.nil_append, List.cons_append, List.append_nil, Option.map_some, Option.bind_some, List.getElem?_cons_zero, List.getElem?_cons_succ, Bool.false_eq_true, not_true_eq_false, not_false_eq_true, List.contains_cons, List.contains_nil, Nat.reduceBEq, Bool.true_or, Bool.false_or, Bool.or_true, List.set_cons_zero, List.set_cons_succ, List.length_cons, List.length_nil, isLd, Bool.true_and, Bool.false_and, Bool.and_true, Bool.and_false, hrm, e1, e2, e6, e8, e9, e33, e34]
          rw [visit_no (fun x => hrm x.2)] at hsv
          exact ⟨r' - 1, by omega, _, Sub.refl _, v + 1, Aq, cq, by rw [hsv], rfl, by omega, by omega, by rw [hsv]; exact hNq⟩
      · simp (maxSteps := 300000) (disch := omega) only [gs, gs2, gs3, ↓reduceIte, Nat.reduceEqDiff, Nat.mul_one, Nat.add_zero, Nat.zero_add, Nat.zero_mul, Int.toNat_natCast, Int.reduceToNat, Nat.reduceMul, Nat.reduceAdd, decide_true, decide_false, Bool.not_true, Bool.not_false, true_and, and_true, List.map_cons, List.map_nil, List.nil_append, List.cons_append, List.append_nil, Option.map_some, Option.bind_some, List.getElem?_cons_zero, List.getElem?_cons_succ, Bool.false_eq_true, not_true_eq_false, not_false_eq_true, List.contains_cons, List.contains_nil, Nat.reduceBEq, Bool.true_or, Bool.false_or, Bool.or_true, List.set_cons_zero, List.set_cons_succ, List.length_cons, List.length_nil, isLd, Bool.true_and, Bool.false_and, Bool.and_true, Bool.and_false, e1, e2, e6, e8, e9, e33, e34, rq, f0, f1, f2, f3]
        rw [visit_no (fun x => x.1 (hbb.1 rfl))] at hsv
        exact ⟨r' - 1, by omega, _, Sub.refl _, v + 1, Aq, cq, by rw [hsv], rfl, by omega, by omega, by rw [hsv]; exact hNq⟩
    · simp (maxSteps := 300000) (disch := omega) only [gs, gs2, gs3, ↓reduceIte, Nat.reduceEqDiff, Nat.mul_one, Nat.add_zero, Nat.zero_add, Nat.zero_mul, Int.toNat_natCast, Int.reduceToNat, Nat.reduceMul, Nat.reduceAdd, decide_true, decide_false, Bool.not_true, Bool.not_false, true_and, and_true, List.map_cons, List.map_nil, List.nil_append, List.cons_append, List.append_nil, Option.map_some, Option.bind_some, List.getElem?_cons_zero, List.getElem?_cons_succ, Bool.false_eq_true, not_true_eq_false, not_false_eq_true, List.contains_cons, List.contains_nil, Nat.reduceBEq, Bool.true_or, Bool.false_or, Bool.or_true, List.set_cons_zero, List.set_cons_succ, List.length_cons, List.length_nil, isLd, Bool.true_and, Bool.false_and, Bool.and_true, Bool.and_false, e1, e2, e6, e8, e9, e33, e34, hv]
      obtain rfl : v = n := by omega
      rw [hst] at hend
      subst hend
      exact ⟨r - 1, by omega, _, Sub.refl _, i + 1, Aq, cq, rfl, rfl, by omega, by omega, hNq⟩
  · simp (maxSteps := 300000) (disch := omega) only [gs, gs2, gs3, ↓reduceIte, Nat.reduceEqDiff, Nat.mul_one, Nat.add_zero, Nat.zero_add, Nat.zero_mul, Int.toNat_natCast, Int.reduceToNat, Nat.reduceMul, Nat.reduceAdd, decide_true, decide_false, Bool.not_true, Bool.not_false, true_and, and_true, List.map_cons, List.map_nil, List.nil_append, List.cons_append, List.append_nil, Option.map_some, Option.bind_some, List.getElem?_cons_zero, List.getElem?_cons_succ, Bool.false_eq_true, not_true_eq_false, not_false_eq_true, List.contains_cons, List.contains_nil, Nat.reduceBEq, Bool.true_or, Bool.false_or, Bool.or_true, List.set_cons_zero, List.set_cons_succ, List.length_cons, List.length_nil, isLd, Bool.true_and, Bool.false_and, Bool.and_true, Bool.and_false, e1, e2, e6, e8, e9, hi]
    have hE := bfs_end (es := N.arcs) (fl := fl) hs (i := i) (by omega) hin
    rw [hE] at hNq ⊢
    rw [← hG1] at hNq
    obtain ⟨G'', s2, hN2⟩ := hNq.unbox hb1 qF.2 qF.1
    exact ⟨G'', s2, hk _ _ _ _ qF.2 hN2⟩
inductive Great (es : List T3) (n : Nat) (s t : Int) : List Int → List Int → Prop where
  | done {fl : List Int} : (reach es fl n s).b t < 0 → Great es n s t fl fl
  | step {fl fl' : List Int} : 0 ≤ (reach es fl n s).b t → Great es n s t (stepF es n s t fl) fl' → Great es n s t fl fl'
theorem Great.det {es : List T3} {n : Nat} {s t : Int} {fl a b : List Int} (h : Great es n s t fl a) (k : Great es n s t fl b) : a = b := by
  induction h with
  | done h1 => cases k with
    | done _ => rfl
    | step h2 _ => omega
  | step h1 _ ih => cases k with
    | done h2 => omega
    | step _ k' => exact ih k'
/-- what can still be sent. -/
def left (es : List T3) (t : Int) (fl : List Int) : Nat := (24000000 - exc es fl t es.length).toNat
theorem cap_FlB {N : Net} (hn : NetOk N) {fl : List Int} (h : Cap N.arcs fl) : FlB N.arcs fl :=
  ⟨hn.2.2.2.2.2, h.1, fun i hi => by have := cap_bd hn h hi; omega⟩
theorem left_step {N : Net} (hn : NetOk N) {fl : List Int} (h : Cap N.arcs fl) (hb : 0 ≤ (reach N.arcs fl N.n.toNat N.s).b N.t) : Cap N.arcs (stepF N.arcs N.n.toNat N.s N.t fl) ∧ left N.arcs N.t (stepF N.arcs N.n.toNat N.s N.t fl) < left N.arcs N.t fl := by
  have h1 := hn.1
  have h2 := hn.2.1
  have h3 := hn.2.2.1
  have h4 := hn.2.2.2.1
  obtain ⟨c, a, ha, he⟩ := stepF_all (es := N.arcs) (n := N.n.toNat) (s := N.s) (t := N.t) (by omega) (by omega) h4 h hb
  refine ⟨c, ?_⟩
  have e := he N.t
  rw [if_pos rfl, if_neg (fun x => h4 x.symm)] at e
  have b1 := (exc_bound (cap_FlB hn c) N.t _ (Nat.le_refl _)).2
  have hl := hn.2.2.2.2.2
  unfold left
  omega
theorem Great.ex {N : Net} (hn : NetOk N) : ∀ (m : Nat) (fl : List Int), left N.arcs N.t fl < m → Cap N.arcs fl → ∃ fl', Great N.arcs N.n.toNat N.s N.t fl fl' ∧ Cap N.arcs fl'
  | 0, fl, h, _ => by omega
  | m + 1, fl, h, hc => by
    by_cases hb : 0 ≤ (reach N.arcs fl N.n.toNat N.s).b N.t
    · obtain ⟨c, hl⟩ := left_step hn hc hb
      obtain ⟨fl', h1, h2⟩ := Great.ex hn m _ (by omega) c
      exact ⟨fl', .step hb h1, h2⟩
    · exact ⟨fl, .done (by omega), hc⟩
theorem cap_zero {N : Net} (hn : NetOk N) : Cap N.arcs (List.replicate N.arcs.length 0) :=
  ⟨by simp, fun i hi => by
    have := (hn.2.2.2.2.1.1 i hi).2.2.2
    simp [List.getD, hi]
    simp [List.getD, hi] at this
    omega⟩
open Classical in
/-- the greatest flow of a network. -/
noncomputable def greatV (N : Net) : List Int := if h : ∃ fl', Great N.arcs N.n.toNat N.s N.t (List.replicate N.arcs.length 0) fl' then Classical.choose h else []
theorem great_eq {N : Net} {fl : List Int} (h : Great N.arcs N.n.toNat N.s N.t (List.replicate N.arcs.length 0) fl) : greatV N = fl := by
  unfold greatV
  rw [dif_pos ⟨fl, h⟩]
  exact Great.det (Classical.choose_spec (⟨fl, h⟩ : ∃ fl', Great N.arcs N.n.toNat N.s N.t (List.replicate N.arcs.length 0) fl')) h
theorem great_ok {N : Net} (hn : NetOk N) : Great N.arcs N.n.toNat N.s N.t (List.replicate N.arcs.length 0) (greatV N) ∧ Cap N.arcs (greatV N) := by
  obtain ⟨fl, h, hc⟩ := Great.ex hn _ _ (Nat.lt_succ_self _) (cap_zero hn)
  rw [great_eq h]; exact ⟨h, hc⟩
/-- the nodes that are marked at last, in order. -/
noncomputable def sideV (N : Net) : List Int := (iota N.n.toNat).filter fun v => decide (0 ≤ (reach N.arcs (greatV N) N.n.toNat N.s).b v)
def sumN (f : Int → Int) : Nat → Int
  | 0 => 0
  | k + 1 => sumN f k + f k
theorem sumN_congr {f g : Int → Int} : ∀ n : Nat, (∀ i : Nat, i < n → f i = g i) → sumN f n = sumN g n
  | 0, _ => rfl
  | n + 1, h => by rw [sumN, sumN, sumN_congr n (fun i hi => h i (by omega)), h n (by omega)]
theorem sumN_add (f g : Int → Int) : ∀ n : Nat, sumN (fun i => f i + g i) n = sumN f n + sumN g n
  | 0 => rfl
  | n + 1 => by rw [sumN, sumN, sumN, sumN_add f g n]; omega
theorem sumN_zero : ∀ n : Nat, sumN (fun _ => 0) n = 0
  | 0 => rfl
  | n + 1 => by rw [sumN, sumN_zero n]; rfl
theorem sumN_one (v x : Int) (h0 : 0 ≤ v) : ∀ n : Nat, sumN (fun i => if i = v then x else 0) n = if v < n then x else 0
  | 0 => by rw [sumN, if_neg (by omega)]
  | n + 1 => by
    rw [sumN, sumN_one v x h0 n]
    (repeat' split) <;> omega
theorem sumN_sub (f g : Int → Int) : ∀ n : Nat, sumN (fun i => f i - g i) n = sumN f n - sumN g n
  | 0 => rfl
  | n + 1 => by rw [sumN, sumN, sumN, sumN_sub f g n]; omega
theorem visit_mem {es : List T3} {fl : List Int} {u v w : Int} {st : BS} (h : w ∈ st.q) : w ∈ (visit es fl u v st).q := by
  unfold visit; split
  · exact List.mem_append_left _ h
  · exact h
theorem scan_mem {es : List T3} {fl : List Int} {u w : Int} {st : BS} (h : w ∈ st.q) : ∀ k : Nat, w ∈ (scan es fl u k st).q
  | 0 => h
  | k + 1 => visit_mem (scan_mem h k)
theorem scan_all {es : List T3} {fl : List Int} {u : Int} {st : BS} : ∀ (k v : Nat), v < k → 0 < rm es fl u v → (v : Int) ∈ (scan es fl u k st).q
  | 0, v, h, _ => by omega
  | k + 1, v, h, hr => by
    by_cases hv : v = k
    · subst hv
      show _ ∈ (visit es fl u v (scan es fl u v st)).q
      unfold visit
      split
      · simp
      · rename_i hc
        by_cases hm : (v : Int) ∈ (scan es fl u v st).q
        · exact hm
        · exact absurd ⟨hm, hr⟩ hc
    · exact visit_mem (scan_all k v (by omega) hr)
theorem scan_get {es : List T3} {fl : List Int} {u : Int} {st : BS} {j : Nat} (hj : j < st.q.length) : ∀ k : Nat, j < (scan es fl u k st).q.length ∧ (scan es fl u k st).q.getD j 0 = st.q.getD j 0
  | 0 => ⟨hj, rfl⟩
  | k + 1 => by
    have ih := scan_get (es := es) (fl := fl) (u := u) hj k
    show j < (visit es fl u k (scan es fl u k st)).q.length ∧ (visit es fl u k (scan es fl u k st)).q.getD j 0 = _
    unfold visit
    split
    · refine ⟨by simp; omega, ?_⟩
      rw [← ih.2]; simp only [List.getD]; rw [List.getElem?_append_left ih.1]
    · exact ih
theorem bfs_closed {es : List T3} {fl : List Int} {n : Nat} {s : Int} : ∀ (i j : Nat), j < i → j < (bfs es fl n s i).q.length → ∀ v : Nat, v < n → 0 < rm es fl ((bfs es fl n s i).q.getD j 0) v → (v : Int) ∈ (bfs es fl n s i).q
  | 0, j, h, _, _, _, _ => by omega
  | i + 1, j, h, hj, v, hv, hr => by
    by_cases hi : i < (bfs es fl n s i).q.length
    · rw [bfs] at hr hj ⊢
      try dsimp only at hr hj ⊢
      rw [if_pos hi] at hr hj ⊢
      by_cases hji : j = i
      · subst hji
        rw [(scan_get hi n).2] at hr
        exact scan_all n v hv hr
      · have hj' : j < (bfs es fl n s i).q.length := by omega
        rw [(scan_get hj' n).2] at hr
        exact scan_mem (bfs_closed i j (by omega) hj' v hv hr) n
    · rw [bfs] at hr hj ⊢
      try dsimp only at hr hj ⊢
      rw [if_neg hi] at hr hj ⊢
      exact bfs_closed i j (by omega) hj v hv hr
/-- what is reached is closed. -/
theorem reach_closed {es : List T3} {fl : List Int} {n : Nat} {s : Int} (hs : 0 ≤ s ∧ s < n) {u v : Int} (hu0 : 0 ≤ u) (hu : 0 ≤ (reach es fl n s).b u) (hv0 : 0 ≤ v) (hv : v < n) (hr : 0 < rm es fl u v) : 0 ≤ (reach es fl n s).b v := by
  have hI := BI.reach (es := es) (fl := fl) hs
  obtain ⟨j, hj, e⟩ := mem_getD'.1 ((hI.inq u hu0).2 hu)
  have hl := hI.len
  have := bfs_closed (es := es) (fl := fl) (s := s) n j (by unfold reach at hj hl; omega) hj v.toNat (by omega) (by
    rw [Int.toNat_of_nonneg hv0]; unfold reach at e; rw [e]; exact hr)
  rw [Int.toNat_of_nonneg hv0] at this
  exact (hI.inq v hv0).1 this
/-- nothing stays at the nodes between. -/
def Cons (N : Net) (fl : List Int) : Prop := ∀ v, 0 ≤ v → v < N.n → v ≠ N.s → v ≠ N.t → exc N.arcs fl v N.arcs.length = 0
theorem exc_zero (es : List T3) (v : Int) (m : Nat) : ∀ k : Nat, exc es (List.replicate m 0) v k = 0
  | 0 => by simp [exc]
  | k + 1 => by
    have e : (List.replicate m (0 : Int)).getD k 0 = 0 := by simp [List.getD, List.getElem?_replicate]; split <;> rfl
    rw [exc, exc_zero es v m k, e]; simp
theorem great_cons {N : Net} (hn : NetOk N) {fl fl' : List Int} (h : Great N.arcs N.n.toNat N.s N.t fl fl') (hc : Cap N.arcs fl) (hk : Cons N fl) : Cap N.arcs fl' ∧ Cons N fl' ∧ (reach N.arcs fl' N.n.toNat N.s).b N.t < 0 := by
  have h1 := hn.1
  have h2 := hn.2.1
  have h3 := hn.2.2.1
  have h4 := hn.2.2.2.1
  induction h with
  | done hb => exact ⟨hc, hk, hb⟩
  | step hb _ ih =>
    obtain ⟨c, a, ha, he⟩ := stepF_all (es := N.arcs) (n := N.n.toNat) (s := N.s) (t := N.t) (by omega) (by omega) h4 hc hb
    exact ih c fun v v0 v1 vs vt => by rw [he v, if_neg vt, if_neg vs]; have := hk v v0 v1 vs vt; omega
theorem greatV_all {N : Net} (hn : NetOk N) : Cap N.arcs (greatV N) ∧ Cons N (greatV N) ∧ (reach N.arcs (greatV N) N.n.toNat N.s).b N.t < 0 := by
  exact great_cons hn (great_ok hn).1 (cap_zero hn) fun v _ _ _ _ => exc_zero _ _ _ _
open Classical in
/-- what leaves a set less what comes to it, over the first k arcs. -/
noncomputable def over' (S : Int → Prop) (es : List T3) (fl : List Int) : Nat → Int
  | 0 => 0
  | k + 1 => over' S es fl k + (if ¬ S (es.getD k z3).2.1 then fl.getD k 0 else 0) - (if ¬ S (es.getD k z3).1 then fl.getD k 0 else 0)
open Classical in
theorem sum_exc (S : Int → Prop) {es : List T3} (fl : List Int) (n : Nat) : ∀ k : Nat, (∀ i, i < k → (0 ≤ (es.getD i z3).1 ∧ (es.getD i z3).1 < n) ∧ 0 ≤ (es.getD i z3).2.1 ∧ (es.getD i z3).2.1 < n) →
    sumN (fun v => if ¬ S v then exc es fl v k else 0) n = over' S es fl k
  | 0, _ => by
    have : (fun v => if ¬ S v then exc es fl v 0 else 0) = fun _ => (0 : Int) := by funext v; simp [exc]
    rw [this]; exact sumN_zero n
  | k + 1, h => by
    have ih := sum_exc S fl n k fun i hi => h i (by omega)
    obtain ⟨h1, h2⟩ := h k (by omega)
    rw [over', ← ih]
    have e : (fun v => if ¬ S v then exc es fl v (k + 1) else 0) = fun v => ((if ¬ S v then exc es fl v k else 0) + (if v = (es.getD k z3).2.1 then (if ¬ S (es.getD k z3).2.1 then fl.getD k 0 else 0) else 0)) - (if v = (es.getD k z3).1 then (if ¬ S (es.getD k z3).1 then fl.getD k 0 else 0) else 0) := by
      funext v
      rw [exc]
      by_cases hs : S v
      · have p1 : (if v = (es.getD k z3).2.1 then (if ¬ S (es.getD k z3).2.1 then fl.getD k 0 else 0) else 0) = 0 := by
          by_cases a1 : v = (es.getD k z3).2.1
          · rw [if_pos a1, if_neg (fun x => x (a1 ▸ hs))]
          · rw [if_neg a1]
        have p2 : (if v = (es.getD k z3).1 then (if ¬ S (es.getD k z3).1 then fl.getD k 0 else 0) else 0) = 0 := by
          by_cases a1 : v = (es.getD k z3).1
          · rw [if_pos a1, if_neg (fun x => x (a1 ▸ hs))]
          · rw [if_neg a1]
        rw [p1, p2, if_neg (fun x => x hs), if_neg (fun x => x hs)]; rfl
      · by_cases a1 : v = (es.getD k z3).2.1
        · by_cases a2 : v = (es.getD k z3).1
          · rw [if_pos hs, if_pos hs, if_pos a1, if_pos a2, if_pos a1.symm, if_pos a2.symm, ← a1, ← a2, if_pos hs]
          · rw [if_pos hs, if_pos hs, if_pos a1, if_neg a2, if_pos a1.symm, if_neg (fun x => a2 x.symm), ← a1, if_pos hs]
        · by_cases a2 : v = (es.getD k z3).1
          · rw [if_pos hs, if_pos hs, if_neg a1, if_pos a2, if_neg (fun x => a1 x.symm), if_pos a2.symm, ← a2, if_pos hs]
          · rw [if_pos hs, if_pos hs, if_neg a1, if_neg a2, if_neg (fun x => a1 x.symm), if_neg (fun x => a2 x.symm)]
    rw [e, sumN_sub, sumN_add, sumN_one _ _ h2.1, sumN_one _ _ h1.1, if_pos h2.2, if_pos h1.2]
theorem val_over {N : Net} (hn : NetOk N) {fl : List Int} (hk : Cons N fl) {S : Int → Prop} (hs : S N.s) (ht : ¬ S N.t) : exc N.arcs fl N.t N.arcs.length = over' S N.arcs fl N.arcs.length := by
  classical
  have h1 := hn.1
  have h2 := hn.2.1
  have h3 := hn.2.2.1
  rw [← sum_exc S fl N.n.toNat _ (fun i hi => by have := hn.2.2.2.2.1.1 i hi; unfold okArc at this; omega)]
  rw [sumN_congr (g := fun v => if v = N.t then exc N.arcs fl N.t N.arcs.length else 0) N.n.toNat (fun i hi => by
    by_cases hit : (i : Int) = N.t
    · rw [hit, if_pos ht, if_pos rfl]
    · rw [if_neg hit]
      by_cases hS : S i
      · rw [if_neg (fun x => x hS)]
      · rw [if_pos hS]
        exact hk i (by omega) (by omega) (fun x => hS (by rw [x]; exact hs)) hit)]
  rw [sumN_one _ _ (by omega), if_pos (by omega)]
theorem over_le {N : Net} {fl : List Int} (hc : Cap N.arcs fl) (xs : List Int) : ∀ k : Nat, k ≤ N.arcs.length → over' (· ∈ xs) N.arcs fl k ≤ capK N.arcs xs k
  | 0, _ => by simp [over', capK]
  | k + 1, hk => by
    have ih := over_le hc xs k (by omega)
    have := hc.2 k (by omega)
    rw [over', capK]
    by_cases a1 : (N.arcs.getD k z3).1 ∈ xs
    · by_cases a2 : (N.arcs.getD k z3).2.1 ∈ xs
      · rw [if_neg (fun x => x a2), if_neg (fun x => x a1), if_neg (fun x => x.2 a2)]; omega
      · rw [if_pos a2, if_neg (fun x => x a1), if_pos ⟨a1, a2⟩]; omega
    · by_cases a2 : (N.arcs.getD k z3).2.1 ∈ xs
      · rw [if_neg (fun x => x a2), if_pos a1, if_neg (fun x => a1 x.1)]; omega
      · rw [if_pos a2, if_pos a1, if_neg (fun x => a1 x.1)]; omega
theorem over_eq {N : Net} {fl : List Int} (xs : List Int) (h : ∀ i, i < N.arcs.length → ((N.arcs.getD i z3).1 ∈ xs → ¬ (N.arcs.getD i z3).2.1 ∈ xs → fl.getD i 0 = (N.arcs.getD i z3).2.2) ∧ (¬ (N.arcs.getD i z3).1 ∈ xs → (N.arcs.getD i z3).2.1 ∈ xs → fl.getD i 0 = 0)) : ∀ k : Nat, k ≤ N.arcs.length → over' (· ∈ xs) N.arcs fl k = capK N.arcs xs k
  | 0, _ => by simp [over', capK]
  | k + 1, hk => by
    have ih := over_eq xs h k (by omega)
    have := h k (by omega)
    rw [over', capK, ih]
    by_cases a1 : (N.arcs.getD k z3).1 ∈ xs
    · by_cases a2 : (N.arcs.getD k z3).2.1 ∈ xs
      · rw [if_neg (fun x => x a2), if_neg (fun x => x a1), if_neg (fun x => x.2 a2)]; omega
      · rw [if_pos a2, if_neg (fun x => x a1), if_pos ⟨a1, a2⟩, this.1 a1 a2]; omega
    · by_cases a2 : (N.arcs.getD k z3).2.1 ∈ xs
      · rw [if_neg (fun x => x a2), if_pos a1, if_neg (fun x => a1 x.1), this.2 a1 a2]; omega
      · rw [if_pos a2, if_pos a1, if_neg (fun x => a1 x.1)]; omega
theorem side_mem {N : Net} (hn : NetOk N) {v : Int} (h0 : 0 ≤ v) (h1 : v < N.n) : v ∈ sideV N ↔ 0 ≤ (reach N.arcs (greatV N) N.n.toNat N.s).b v := by
  have := hn.1
  unfold sideV iota
  simp only [List.mem_filter, List.mem_map, List.mem_range, decide_eq_true_eq]
  constructor
  · exact fun h => h.2
  · exact fun h => ⟨⟨v.toNat, by omega, by omega⟩, h⟩
/-- the value of the greatest flow is the capacity of the cut that is left. -/
theorem great_cut {N : Net} (hn : NetOk N) : exc N.arcs (greatV N) N.t N.arcs.length = capK N.arcs (sideV N) N.arcs.length := by
  obtain ⟨hc, hk, hb⟩ := greatV_all hn
  have h1 := hn.1
  have h2 := hn.2.1
  have h3 := hn.2.2.1
  have hI := BI.reach (es := N.arcs) (fl := greatV N) (n := N.n.toNat) (s := N.s) (by omega)
  rw [val_over hn hk (S := (· ∈ sideV N)) ((side_mem hn h2.1 (by omega)).2 (by rw [hI.src]; exact h2.1)) (fun x => by have := (side_mem hn h3.1 (by omega)).1 x; omega)]
  refine over_eq _ (fun i hi => ?_) _ (Nat.le_refl _)
  have ha := hn.2.2.2.2.1.1 i hi
  have hci := hc.2 i hi
  unfold okArc at ha
  have e0 := arcI_at hn.2.2.2.2.1.2 hi rfl rfl
  have hrm0 : ∀ a b, 0 ≤ rm N.arcs (greatV N) a b ∧ (0 ≤ arcI N.arcs a b → (N.arcs.getD (arcI N.arcs a b).toNat z3).2.2 - (greatV N).getD (arcI N.arcs a b).toNat 0 ≤ rm N.arcs (greatV N) a b) ∧ (0 ≤ arcI N.arcs b a → (greatV N).getD (arcI N.arcs b a).toNat 0 ≤ rm N.arcs (greatV N) a b) := fun a b => by
    have p1 : 0 ≤ arcI N.arcs a b → 0 ≤ (N.arcs.getD (arcI N.arcs a b).toNat z3).2.2 - (greatV N).getD (arcI N.arcs a b).toNat 0 := fun h => by have := hc.2 _ (arcI_lt _ _ _ h).1; omega
    have p2 : 0 ≤ arcI N.arcs b a → 0 ≤ (greatV N).getD (arcI N.arcs b a).toNat 0 := fun h => by have := hc.2 _ (arcI_lt _ _ _ h).1; omega
    unfold rm
    by_cases q1 : 0 ≤ arcI N.arcs a b
    · have := p1 q1
      by_cases q2 : 0 ≤ arcI N.arcs b a
      · have := p2 q2
        rw [if_pos q1, if_pos q2]; omega
      · rw [if_pos q1, if_neg q2]; omega
    · by_cases q2 : 0 ≤ arcI N.arcs b a
      · have := p2 q2
        rw [if_neg q1, if_pos q2]; omega
      · rw [if_neg q1, if_neg q2]; omega
  constructor
  · intro m1 m2
    rw [side_mem hn (by omega) (by omega)] at m1 m2
    by_cases hr : 0 < rm N.arcs (greatV N) (N.arcs.getD i z3).1 (N.arcs.getD i z3).2.1
    · exact absurd (reach_closed (by omega) (by omega) m1 (by omega) (by omega) hr) m2
    · have := (hrm0 (N.arcs.getD i z3).1 (N.arcs.getD i z3).2.1).2.1 (by rw [e0]; omega)
      rw [e0, Int.toNat_natCast] at this
      omega
  · intro m1 m2
    rw [side_mem hn (by omega) (by omega)] at m1 m2
    by_cases hr : 0 < rm N.arcs (greatV N) (N.arcs.getD i z3).2.1 (N.arcs.getD i z3).1
    · exact absurd (reach_closed (by omega) (by omega) m2 (by omega) (by omega) hr) m1
    · have := (hrm0 (N.arcs.getD i z3).2.1 (N.arcs.getD i z3).1).2.2 (by rw [e0]; omega)
      rw [e0, Int.toNat_natCast] at this
      omega
/-- no flow has more. -/
theorem great_most {N : Net} (hn : NetOk N) {fl : List Int} (hc : Cap N.arcs fl) (hk : Cons N fl) : exc N.arcs fl N.t N.arcs.length ≤ exc N.arcs (greatV N) N.t N.arcs.length := by
  obtain ⟨_, _, hb⟩ := greatV_all hn
  have h1 := hn.1
  have h2 := hn.2.1
  have h3 := hn.2.2.1
  have hI := BI.reach (es := N.arcs) (fl := greatV N) (n := N.n.toNat) (s := N.s) (by omega)
  rw [great_cut hn, val_over hn hk (S := (· ∈ sideV N)) ((side_mem hn h2.1 (by omega)).2 (by rw [hI.src]; exact h2.1)) (fun x => by have := (side_mem hn h3.1 (by omega)).1 x; omega)]
  exact over_le hc _ _ (Nat.le_refl _)
theorem Own.t3 {G : GH} {A : Option Addr} {c : Nat} {es : List T3} (h : Own G A c (flat3 es) 3 es.length) : T3S G A c es := h.cells.t3 h.cap
theorem Own.mk {G : GH} {A : Option Addr} {c n : Nat} {k : Int} (h : Own G A c ((marks k n).map I64) 1 n) : IntS G A c (marks k n) := ⟨by rw [marks_len]; exact h.cap, cells_int' h.cells⟩
theorem Own.len {G : GH} {A : Option Addr} {c sz n : Nat} {cs : List Value} (h : Own G A c cs sz n) : cs.length = n * sz := by
  rcases h with ⟨_, _, rfl, rfl⟩ | ⟨b, r, _, _, h, _⟩
  · simp
  · exact h
theorem ap_own {G : GH} {A B : Option Addr} {c n m d sz bytes : Nat} {z cs news : List Value} {K : Value → GH → Prop} (h : Own G A c cs sz n) (hnews : Cells G B news) (hm : news.length = m * sz) (h1 : ∀ v ∈ news, oneB v = true)
    (hz : z.length = sz) (hsz : 0 < sz) (hb : bytes ≤ 4096) (hlen : n + m < 2 ^ 33) (hk : ∀ G' A' c', Own G' A' c' (cs ++ news) sz (n + m) → (∀ H, Sub H G → Off H A → Sub H G' ∧ Off H A') → K (.slice A' (n + m) c') G') :
    gAp sz bytes z (.slice A n c) (.slice B m d) G K := by
  refine ⟨A, n, c, B, m, d, cs, news, rfl, rfl, h.len, fun j v hj => h.cells j v hj, hm, hnews, h1, ?_, by omega, fun hle => ?_, fun hlt b c' hb hc => ?_⟩
  · have : 2 * (n + m) * bytes ≤ 2 * 2 ^ 33 * 4096 := Nat.mul_le_mul (by omega) hb
    omega
  · rcases h with ⟨rfl, rfl, rfl, rfl⟩ | ⟨b, rest, rfl, hb, hcs, hrest, hnc⟩
    · obtain rfl : m = 0 := by omega
      have hn : news = [] := by simpa using hm
      subst hn
      exact .inl ⟨rfl, G, Sub.refl _, hk G none 0 (.inl ⟨rfl, rfl, rfl, rfl⟩) fun H s o => ⟨s, o⟩⟩
    · have hfit : (n + m) * sz ≤ c * sz := Nat.mul_le_mul_right _ hle
      rw [List.length_append] at hrest
      have hfit' := hfit
      rw [Nat.add_mul] at hfit'
      have ho : over (cs ++ rest) (0 + n * sz) news = cs ++ news ++ rest.drop news.length := by
        have := over_app news cs rest
        rw [if_pos (by omega)] at this
        rw [Nat.zero_add, ← hcs]; exact this
      refine .inr ⟨b, 0, cs ++ rest, rfl, hb, by rw [List.length_append]; omega, _, Sub.refl _, hk _ _ _ (.inr ⟨b, rest.drop news.length, rfl, by rw [put_same, ho], by simp [hcs, hm, Nat.add_mul], ?_, hle⟩) fun H s o => ⟨s.skip (o _ rfl), o⟩⟩
      simp only [List.length_append, List.length_drop]
      omega
  · have hcs := h.len
    refine ⟨_, Sub.refl _, hk _ _ _ (.inr ⟨b, zc z (c' - (n + m)), rfl, put_same _ _ _, by simp [hcs, hm, Nat.add_mul], ?_, hc⟩) fun H s o => ⟨s.skip (s.none hb), fun a ha => by cases ha; exact s.none hb⟩⟩
    have e1 : (zc z (c' - (n + m))).length = (c' - (n + m)) * sz := by simp [zc, hz]
    rw [List.length_append, e1, List.length_append, hcs, hm, ← Nat.add_mul, ← Nat.add_mul]
    congr 1; omega
theorem New.low {G H G' : GH} {A : Option Addr} {c sz n : Nat} {cs : List Value} (h : New G G' A c cs sz n) (s : Sub H G) : ∃ G'', Sub G'' G' ∧ New H G'' A c cs sz n := by
  rcases h with ⟨h1, h2, h3, h4, rfl⟩ | ⟨b, r, h1, h2, rfl, h3⟩
  · exact ⟨H, s, .inl ⟨h1, h2, h3, h4, rfl⟩⟩
  · exact ⟨put H b ⟨cs ++ r, true⟩, Sub.both s, .inr ⟨b, r, h1, s.none h2, rfl, h3⟩⟩
theorem Own.new {G H : GH} {A : Option Addr} {c sz n : Nat} {cs : List Value} (h : Own G A c cs sz n) (s : Sub H G) (o : Off H A) : ∃ G'', Sub G'' G ∧ New H G'' A c cs sz n := by
  rcases h with ⟨h1, h2, h3, h4⟩ | ⟨b, r, h1, h2, h3⟩
  · exact ⟨H, s, .inl ⟨h1, h2, h3, h4, rfl⟩⟩
  · exact ⟨put H b ⟨cs ++ r, true⟩, Sub.of_put s h2, .inr ⟨b, r, h1, o _ h1, rfl, h3⟩⟩
theorem Own.blk {G : GH} {b : Nat} {cs : List Value} {sz n : Nat} (h : G b = some ⟨cs, true⟩) (hl : cs.length = n * sz) : Own G (some ⟨b, 0, none⟩) n cs sz n :=
  .inr ⟨b, [], rfl, by simpa using h, hl, by simpa using hl, Nat.le_refl _⟩
theorem New.fresh {G G' : GH} {A : Option Addr} {c sz n : Nat} {cs : List Value} (h : New G G' A c cs sz n) : Own G' A c cs sz n := h.own.sub (Sub.rest _ _)
theorem blk_ne {G : GH} {a b : Nat} {e : Ent} (h : G a = some e) (k : G b = none) : a ≠ b := fun x => by rw [x, k] at h; cases h
theorem Own.ints' {G : GH} {A : Option Addr} {c n : Nat} {xs : List Int} (h : Own G A c (xs.map I64) 1 n) (hn : n = xs.length) : IntS G A c xs := by subst hn; exact h.ints
theorem Off.nil (H : GH) : Off H none := fun a ha => by cases ha
theorem Own.cast {G : GH} {A : Option Addr} {c sz n : Nat} {cs cs' : List Value} (h : Own G A c cs sz n) (e : cs = cs') {n' : Nat} (en : n = n') : Own G A c cs' sz n' := e ▸ en ▸ h
theorem Own.nil (G : GH) (sz : Nat) : Own G none 0 [] sz 0 := .inl ⟨rfl, rfl, rfl, rfl⟩
/-- the cells of a list, one at a place. -/
theorem ints_get (xs : List Int) (k : Nat) (h : k < xs.length) : (xs.map I64)[k]? = some (.int .i64 (xs.getD k 0)) := by simp [List.getD, h, I64]
theorem New.sn {G G' : GH} {A : Option Addr} {c sz n : Nat} {cs : List Value} (h : New G G' A c cs sz n) (hn : 0 < n) : 0 < Gh.sn A := by
  rcases h with ⟨_, _, h0, _, _⟩ | ⟨b, r, rfl, _⟩
  · omega
  · simp [Gh.sn]
/-- a cell of a new list is written. -/
theorem New.store {G G' : GH} {A : Option Addr} {c n : Nat} {cs : List Value} (h : New G G' A c cs 1 n) {k : Nat} {v : Value} {K : Value → GH → Prop} (hk : k < n) (hv : oneB v = true) (hK : ∀ G'', New G G'' A c (cs.set k v) 1 n → K undef G'') : gSt 1 (.pointer (pa A k)) v G' K := by
  rcases h with ⟨_, _, h0, _, _⟩ | ⟨b, r, rfl, h2, rfl, h3, h4, h5⟩
  · omega
  · rw [pa_mk, Nat.zero_add]
    refine st_one (put_same _ _ _) (by rw [h4]; omega) hv ?_
    rw [put_put', List.set_append_left _ _ (by omega)]
    exact hK _ (.inr ⟨b, r, rfl, h2, rfl, by simpa using h3, by simpa using h4, h5⟩)
structure PI (es : List T3) (fl : List Int) (s : Int) (st : BS) (a : Int) (f j : Nat) (fl' : List Int) : Prop where
  hj : j < st.q.length
  jf : j ≤ f
  cap : Cap es fl'
  room : ∀ i, 0 < i → i ≤ j → rm es fl' (st.b (st.q.getD i 0)) (st.q.getD i 0) = rm es fl (st.b (st.q.getD i 0)) (st.q.getD i 0)
  le : ∀ x ∈ path st.b s f (st.q.getD j 0), a ≤ rm es fl (st.b x) x
theorem PI.step {es : List T3} {fl : List Int} {n : Nat} {s : Int} {st : BS} (h : BI es fl n s st) {a : Int} (ha : 0 ≤ a) {f j : Nat} {fl' : List Int} (p : PI es fl s st a f j fl') (hv : st.q.getD j 0 ≠ s) :
    ∃ i f', f = f' + 1 ∧ i < j ∧ st.q.getD i 0 = st.b (st.q.getD j 0) ∧ st.b (st.q.getD j 0) ≠ st.q.getD j 0 ∧ a ≤ rm es fl' (st.b (st.q.getD j 0)) (st.q.getD j 0) ∧ PI es fl s st a f' i (push es fl' (st.b (st.q.getD j 0)) (st.q.getD j 0) a) ∧
      pushP es st.b s a f (st.q.getD j 0) fl' = pushP es st.b s a f' (st.q.getD i 0) (push es fl' (st.b (st.q.getD j 0)) (st.q.getD j 0) a) := by
  have hj0 : 0 < j := by
    rcases Nat.eq_zero_or_pos j with rfl | h0
    · exact absurd h.hd.1 hv
    · exact h0
  have hjf := p.jf
  obtain ⟨f', rfl⟩ : ∃ f', f = f' + 1 := ⟨f - 1, by omega⟩
  have hj := p.hj
  obtain ⟨⟨i, hi, e⟩, _⟩ := h.prev j hj0 hj
  have huv : st.b (st.q.getD j 0) ≠ st.q.getD j 0 := fun e' => by
    rw [← e] at e'
    have := q_inj h.nd (by omega) hj e'
    omega
  have hp := p.le
  unfold path at hp
  rw [if_neg hv] at hp
  have h1 := hp (st.q.getD j 0) (by simp)
  rw [← p.room j hj0 (Nat.le_refl _)] at h1
  obtain ⟨p1, p2, _⟩ := push_all p.cap huv ⟨ha, h1⟩
  refine ⟨i, f', rfl, hi, e, huv, h1, ⟨by omega, by omega, p1, fun k hk0 hki => ?_, fun x hx => hp x (List.mem_cons_of_mem _ (by rw [e] at hx; exact hx))⟩, ?_⟩
  · rw [rm_push p.cap huv ⟨ha, h1⟩]
    · exact p.room k hk0 (by omega)
    · rintro ⟨_, e2⟩
      have := q_inj h.nd (by omega) hj e2
      omega
    · rintro ⟨e1, _⟩
      obtain ⟨⟨i', hi', e'⟩, _⟩ := h.prev k hk0 (by omega)
      rw [← e'] at e1
      have := q_inj h.nd (by omega) hj e1
      omega
  · rw [pushP, if_neg hv, e]
/-- the same for the least room on the way. -/
theorem minP_step {es : List T3} {fl : List Int} {n : Nat} {s : Int} {st : BS} (h : BI es fl n s st) {f j : Nat} (hj : j < st.q.length) (hjf : j ≤ f) (hv : st.q.getD j 0 ≠ s) (acc : Int) :
    ∃ i f', f = f' + 1 ∧ i < j ∧ st.q.getD i 0 = st.b (st.q.getD j 0) ∧ minP es fl st.b s f (st.q.getD j 0) acc = minP es fl st.b s f' (st.q.getD i 0) (if rm es fl (st.b (st.q.getD j 0)) (st.q.getD j 0) < acc then rm es fl (st.b (st.q.getD j 0)) (st.q.getD j 0) else acc) := by
  have hj0 : 0 < j := by
    rcases Nat.eq_zero_or_pos j with rfl | h0
    · exact absurd h.hd.1 hv
    · exact h0
  obtain ⟨f', rfl⟩ : ∃ f', f = f' + 1 := ⟨f - 1, by omega⟩
  obtain ⟨⟨i, hi, e⟩, _⟩ := h.prev j hj0 hj
  exact ⟨i, f', rfl, hi, e, by rw [minP, if_neg hv, e]⟩
theorem minP_end {es : List T3} {fl : List Int} {b : Int → Int} {s : Int} (f : Nat) (acc : Int) : minP es fl b s f s acc = acc := by
  cases f with
  | zero => rfl
  | succ f => rw [minP, if_pos rfl]
theorem pushP_end {es : List T3} {b : Int → Int} {s a : Int} (f : Nat) (fl : List Int) : pushP es b s a f s fl = fl := by
  cases f with
  | zero => rfl
  | succ f => rw [pushP, if_pos rfl]
/-- the first of the ways: from the sink. -/
theorem way_start {N : Net} (hn : NetOk N) {fl : List Int} (hc : Cap N.arcs fl) (hb : 0 ≤ (reach N.arcs fl N.n.toNat N.s).b N.t) : ∃ j, j < (reach N.arcs fl N.n.toNat N.s).q.length ∧ (reach N.arcs fl N.n.toNat N.s).q.getD j 0 = N.t ∧ j ≤ N.n.toNat ∧
    (0 < minP N.arcs fl (reach N.arcs fl N.n.toNat N.s).b N.s N.n.toNat N.t 2000000 ∧ minP N.arcs fl (reach N.arcs fl N.n.toNat N.s).b N.s N.n.toNat N.t 2000000 ≤ 2000000) ∧
    PI N.arcs fl N.s (reach N.arcs fl N.n.toNat N.s) (minP N.arcs fl (reach N.arcs fl N.n.toNat N.s).b N.s N.n.toNat N.t 2000000) N.n.toNat j fl := by
  have h1 := hn.1
  have h2 := hn.2.1
  have h3 := hn.2.2.1
  have h := BI.reach (es := N.arcs) (fl := fl) (n := N.n.toNat) (s := N.s) (by omega)
  obtain ⟨j, hj, e⟩ := mem_getD'.1 ((h.inq N.t h3.1).2 hb)
  have hl := h.len
  have hle := minP_le N.arcs fl (reach N.arcs fl N.n.toNat N.s).b N.s N.n.toNat N.t 2000000
  refine ⟨j, hj, e, by omega, ⟨minP_pos _ _ _ _ _ _ _ (by omega) (by rw [← e]; exact path_room h _ j hj), hle.1⟩, hj, by omega, hc, fun _ _ _ => rfl, by rw [e]; exact hle.2⟩
theorem set_same {fl : List Int} {k : Nat} : fl.set k (fl.getD k 0 + 0) = fl := by
  apply List.ext_getElem?
  intro i
  rw [List.getElem?_set, Int.add_zero]
  by_cases h : k = i
  · subst h
    rw [if_pos rfl]
    by_cases hk : k < fl.length
    · rw [if_pos hk]; simp [List.getD, hk]
    · rw [if_neg hk, List.getElem?_eq_none (by omega)]
  · rw [if_neg h]
theorem flow_rd {G : GH} {bF : Nat} {fl : List Int} (h : G bF = some ⟨fl.map I64, true⟩) : ∀ i, i < fl.length → rd G (some ⟨bF, i, none⟩) = some (.int .i64 (fl.getD i 0)) := fun i hi => by
  simp only [rd, h, Option.bind_some]
  exact map_get fl i hi
theorem impl_send_ok {G H : GH} {N : Net} {A C : Option Addr} {c e bF : Nat} {fl : List Int} (hS : Sub H G) (hH : H bF = none) (hF : G bF = some ⟨fl.map I64, true⟩) (h : T3S H A c N.arcs)
    (hC : ∀ v : Int, 0 ≤ v → v < N.n → rd H (pa C v.toNat) = some (.int .i64 (fromF N.s (reach N.arcs fl N.n.toNat N.s) v))) (hsC : 0 < sn C) (hn : NetOk N) (hc : Cap N.arcs fl) (hb : 0 ≤ (reach N.arcs fl N.n.toNat N.s).b N.t) {K : Value → GH → Prop}
    (hk : ∀ G', Sub H G' → G' bF = some ⟨(stepF N.arcs N.n.toNat N.s N.t fl).map I64, true⟩ → K (.tuple [].toArray) G') : GC Try.prog 243 [netV N A c, .slice (some ⟨bF, 0, none⟩) fl.length fl.length, .slice C N.n.toNat e] G K := by
  refine c_impl_send_i (by simp) ?_
  have n1 := hn.1
  have n2 := hn.2.1
  have n3 := hn.2.2.1
  have n5 := hn.2.2.2.2.2
  have hlen := hc.1
  unfold netV netC
  simp (maxSteps := 300000) (disch := omega) only [gs, gs2, gs3, ↓reduceIte, Nat.reduceEqDiff, Nat.mul_one, Nat.add_zero, Nat.zero_add, Nat.zero_mul, Int.toNat_natCast, Int.reduceToNat, Nat.reduceMul, Nat.reduceAdd, decide_true, decide_false, Bool.not_true, Bool.not_false, true_and, and_true, List.map_cons, List.map_nil, List.nil_append, List.cons_append, List.append_nil, Option.map_some, Option.bind_some, List.getElem?_cons_zero, List.getElem?_cons_succ, Bool.false_eq_true, not_true_eq_false, not_false_eq_true, List.contains_cons, List.contains_nil, Nat.reduceBEq, Bool.true_or, Bool.false_or, Bool.or_true, List.set_cons_zero, List.set_cons_succ, List.length_cons, List.length_nil, isLd, Bool.true_and, Bool.false_and, Bool.and_true, Bool.and_false]
  intro b3 hb3
  have hb3H : H b3 = none := hS.none hb3
  have hne : bF ≠ b3 := blk_ne hF hb3
  have hS1 : Sub (put H b3 ⟨[.int .i64 N.n, .int .i64 N.s, .int .i64 N.t, .slice A N.arcs.length c], true⟩) (put G b3 ⟨[.int .i64 N.n, .int .i64 N.s, .int .i64 N.t, .slice A N.arcs.length c], true⟩) := Sub.both hS
  have sH := Sub.put hb3H ⟨[.int .i64 N.n, .int .i64 N.s, .int .i64 N.t, .slice A N.arcs.length c], true⟩
  have hH1 : put H b3 ⟨[.int .i64 N.n, .int .i64 N.s, .int .i64 N.t, .slice A N.arcs.length c], true⟩ bF = none := by rw [put_ne _ _ hne]; exact hH
  have hF1 : put G b3 ⟨[.int .i64 N.n, .int .i64 N.s, .int .i64 N.t, .slice A N.arcs.length c], true⟩ bF = some ⟨fl.map I64, true⟩ := by rw [put_ne _ _ hne]; exact hF
  have k0 : rd (put H b3 ⟨[.int .i64 N.n, .int .i64 N.s, .int .i64 N.t, .slice A N.arcs.length c], true⟩) (some ⟨b3, 0, none⟩) = some (.int .i64 N.n) := rd_box _ _ _ 0 _ rfl
  have k1 : rd (put H b3 ⟨[.int .i64 N.n, .int .i64 N.s, .int .i64 N.t, .slice A N.arcs.length c], true⟩) (some ⟨b3, 1, none⟩) = some (.int .i64 N.s) := rd_box _ _ _ 1 _ rfl
  have k2 : rd (put H b3 ⟨[.int .i64 N.n, .int .i64 N.s, .int .i64 N.t, .slice A N.arcs.length c], true⟩) (some ⟨b3, 2, none⟩) = some (.int .i64 N.t) := rd_box _ _ _ 2 _ rfl
  have k3 : rd (put H b3 ⟨[.int .i64 N.n, .int .i64 N.s, .int .i64 N.t, .slice A N.arcs.length c], true⟩) (some ⟨b3, 3, none⟩) = some (.slice A N.arcs.length c) := rd_box _ _ _ 3 _ rfl
  revert hS1 sH hH1 hF1 k0 k1 k2 k3
  generalize put H b3 ⟨[.int .i64 N.n, .int .i64 N.s, .int .i64 N.t, .slice A N.arcs.length c], true⟩ = H1
  generalize put G b3 ⟨[.int .i64 N.n, .int .i64 N.s, .int .i64 N.t, .slice A N.arcs.length c], true⟩ = G1
  intro hS1 sH hH1 hF1 k0 k1 k2 k3
  have hC1 := fun v h0 h1 => rd_sub sH (hC v h0 h1)
  have h1 := h.sub sH
  obtain ⟨j0, hj0, ej0, hjn, ⟨hpos, hle⟩, hPI⟩ := way_start hn hc hb
  have hI := BI.reach (es := N.arcs) (fl := fl) (n := N.n.toNat) (s := N.s) (by omega)
  have hstep : stepF N.arcs N.n.toNat N.s N.t fl = pushP N.arcs (reach N.arcs fl N.n.toNat N.s).b N.s (minP N.arcs fl (reach N.arcs fl N.n.toNat N.s).b N.s N.n.toNat N.t 2000000) N.n.toNat N.t fl := rfl
  rw [hstep] at hk
  generalize hst : reach N.arcs fl N.n.toNat N.s = st at *
  generalize hamt : minP N.arcs fl st.b N.s N.n.toNat N.t 2000000 = amt at *
  have f0 := rd_sub hS1 k0
  have f1 := rd_sub hS1 k1
  have f2 := rd_sub hS1 k2
  have f3 := rd_sub hS1 k3
  simp (maxSteps := 300000) (disch := omega) only [gs, gs2, gs3, ↓reduceIte, Nat.reduceEqDiff, Nat.mul_one, Nat.add_zero, Nat.zero_add, Nat.zero_mul, Int.toNat_natCast, Int.reduceToNat, Nat.reduceMul, Nat.reduceAdd, decide_true, decide_false, Bool.not_true, Bool.not_false, true_and, and_true, List.map_cons, List.map_nil, List.nil_append, List.cons_append, List.append_nil, Option.map_some, Option.bind_some, List.getElem?_cons_zero, List.getElem?_cons_succ, Bool.false_eq_true, not_true_eq_false, not_false_eq_true, List.contains_cons, List.contains_nil, Nat.reduceBEq, Bool.true_or, Bool.false_or, Bool.or_true, List.set_cons_zero, List.set_cons_succ, List.length_cons, List.length_nil, isLd, Bool.true_and, Bool.false_and, Bool.and_true, Bool.and_false, f2]
  refine gLoop_intro (fun m T G' => ∃ (j f : Nat) (acc : Int), T 1 = .slice (some ⟨bF, 0, none⟩) fl.length fl.length ∧ T 2 = .slice C N.n.toNat e ∧ T 3 = .pointer (some ⟨b3, 0, none⟩) ∧ T 6 = .int .i64 acc ∧ T 7 = .int .i64 (st.q.getD j 0) ∧ m = j ∧ j < st.q.length ∧ j ≤ f ∧ minP N.arcs fl st.b N.s f (st.q.getD j 0) acc = amt ∧ G' = G1)
    j0 ⟨j0, N.n.toNat, 2000000, by simp (maxSteps := 300000) (disch := omega) only [gs, gs2, gs3, ↓reduceIte, Nat.reduceEqDiff, Nat.mul_one, Nat.add_zero, Nat.zero_add, Nat.zero_mul, Int.toNat_natCast, Int.reduceToNat, Nat.reduceMul, Nat.reduceAdd, decide_true, decide_false, Bool.not_true, Bool.not_false, true_and, and_true, List.map_cons, List.map_nil, List.nil_append, List.cons_append, List.append_nil, Option.map_some, Option.bind_some, List.getElem?_cons_zero, List.getElem?_cons_succ, Bool.false_eq_true, not_true_eq_false, not_false_eq_true, List.contains_cons, List.contains_nil, Nat.reduceBEq, Bool.true_or, Bool.false_or, Bool.or_true, List.set_cons_zero, List.set_cons_succ, List.length_cons, List.length_nil, isLd, Bool.true_and, Bool.false_and, Bool.and_true, Bool.and_false], by simp (maxSteps := 300000) (disch := omega) only [gs, gs2, gs3, ↓reduceIte, Nat.reduceEqDiff, Nat.mul_one, Nat.add_zero, Nat.zero_add, Nat.zero_mul, Int.toNat_natCast, Int.reduceToNat, Nat.reduceMul, Nat.reduceAdd, decide_true, decide_false, Bool.not_true, Bool.not_false, true_and, and_true, List.map_cons, List.map_nil, List.nil_append, List.cons_append, List.append_nil, Option.map_some, Option.bind_some, List.getElem?_cons_zero, List.getElem?_cons_succ, Bool.false_eq_true, not_true_eq_false, not_false_eq_true, List.contains_cons, List.contains_nil, Nat.reduceBEq, Bool.true_or, Bool.false_or, Bool.or_true, List.set_cons_zero, List.set_cons_succ, List.length_cons, List.length_nil, isLd, Bool.true_and, Bool.false_and, Bool.and_true, Bool.and_false], by simp (maxSteps := 300000) (disch := omega) only [gs, gs2, gs3, ↓reduceIte, Nat.reduceEqDiff, Nat.mul_one, Nat.add_zero, Nat.zero_add, Nat.zero_mul, Int.toNat_natCast, Int.reduceToNat, Nat.reduceMul, Nat.reduceAdd, decide_true, decide_false, Bool.not_true, Bool.not_false, true_and, and_true, List.map_cons, List.map_nil, List.nil_append, List.cons_append, List.append_nil, Option.map_some, Option.bind_some, List.getElem?_cons_zero, List.getElem?_cons_succ, Bool.false_eq_true, not_true_eq_false, not_false_eq_true, List.contains_cons, List.contains_nil, Nat.reduceBEq, Bool.true_or, Bool.false_or, Bool.or_true, List.set_cons_zero, List.set_cons_succ, List.length_cons, List.length_nil, isLd, Bool.true_and, Bool.false_and, Bool.and_true, Bool.and_false], by simp (maxSteps := 300000) (disch := omega) only [gs, gs2, gs3, ↓reduceIte, Nat.reduceEqDiff, Nat.mul_one, Nat.add_zero, Nat.zero_add, Nat.zero_mul, Int.toNat_natCast, Int.reduceToNat, Nat.reduceMul, Nat.reduceAdd, decide_true, decide_false, Bool.not_true, Bool.not_false, true_and, and_true, List.map_cons, List.map_nil, List.nil_append, List.cons_append, List.append_nil, Option.map_some, Option.bind_some, List.getElem?_cons_zero, List.getElem?_cons_succ, Bool.false_eq_true, not_true_eq_false, not_false_eq_true, List.contains_cons, List.contains_nil, Nat.reduceBEq, Bool.true_or, Bool.false_or, Bool.or_true, List.set_cons_zero, List.set_cons_succ, List.length_cons, List.length_nil, isLd, Bool.true_and, Bool.false_and, Bool.and_true, Bool.and_false], by simp (maxSteps := 300000) (disch := omega) only [gs, gs2, gs3, ↓reduceIte, Nat.reduceEqDiff, Nat.mul_one, Nat.add_zero, Nat.zero_add, Nat.zero_mul, Int.toNat_natCast, Int.reduceToNat, Nat.reduceMul, Nat.reduceAdd, decide_true, decide_false, Bool.not_true, Bool.not_false, true_and, and_true, List.map_cons, List.map_nil, List.nil_append, List.cons_append, List.append_nil, Option.map_some, Option.bind_some, List.getElem?_cons_zero, List.getElem?_cons_succ, Bool.false_eq_true, not_true_eq_false, not_false_eq_true, List.contains_cons, List.contains_nil, Nat.reduceBEq, Bool.true_or, Bool.false_or, Bool.or_true, List.set_cons_zero, List.set_cons_succ, List.length_cons, List.length_nil, isLd, Bool.true_and, Bool.false_and, Bool.and_true, Bool.and_false] <;> rw [ej0], rfl, hj0, hjn, by rw [ej0, hamt], rfl⟩ ?_
  rintro m T G' ⟨j, f, acc, e1, e2, e3, e6, e7, rfl, hj, hjf, hmin, rfl⟩
  have hvr := hI.rng (st.q.getD m 0) (mem_getD'.2 ⟨m, hj, rfl⟩)
  simp (maxSteps := 300000) (disch := omega) only [gs, gs2, gs3, ↓reduceIte, Nat.reduceEqDiff, Nat.mul_one, Nat.add_zero, Nat.zero_add, Nat.zero_mul, Int.toNat_natCast, Int.reduceToNat, Nat.reduceMul, Nat.reduceAdd, decide_true, decide_false, Bool.not_true, Bool.not_false, true_and, and_true, List.map_cons, List.map_nil, List.nil_append, List.cons_append, List.append_nil, Option.map_some, Option.bind_some, List.getElem?_cons_zero, List.getElem?_cons_succ, Bool.false_eq_true, not_true_eq_false, not_false_eq_true, List.contains_cons, List.contains_nil, Nat.reduceBEq, Bool.true_or, Bool.false_or, Bool.or_true, List.set_cons_zero, List.set_cons_succ, List.length_cons, List.length_nil, isLd, Bool.true_and, Bool.false_and, Bool.and_true, Bool.and_false, e1, e2, e3, e6, e7, f1]
  by_cases hv : st.q.getD m 0 = N.s
  · simp (maxSteps := 300000) (disch := omega) only [gs, gs2, gs3, ↓reduceIte, Nat.reduceEqDiff, Nat.mul_one, Nat.add_zero, Nat.zero_add, Nat.zero_mul, Int.toNat_natCast, Int.reduceToNat, Nat.reduceMul, Nat.reduceAdd, decide_true, decide_false, Bool.not_true, Bool.not_false, true_and, and_true, List.map_cons, List.map_nil, List.nil_append, List.cons_append, List.append_nil, Option.map_some, Option.bind_some, List.getElem?_cons_zero, List.getElem?_cons_succ, Bool.false_eq_true, not_true_eq_false, not_false_eq_true, List.contains_cons, List.contains_nil, Nat.reduceBEq, Bool.true_or, Bool.false_or, Bool.or_true, List.set_cons_zero, List.set_cons_succ, List.length_cons, List.length_nil, isLd, Bool.true_and, Bool.false_and, Bool.and_true, Bool.and_false, eq_true hv, e1, e2, e3, e6, e7, f1, f2]
    have hacc : acc = amt := by rw [hv, minP_end] at hmin; exact hmin
    subst hacc
    refine gLoop_intro (fun m T G' => ∃ (j f : Nat) (fl' : List Int), T 1 = .slice (some ⟨bF, 0, none⟩) fl.length fl.length ∧ T 2 = .slice C N.n.toNat e ∧ T 3 = .pointer (some ⟨b3, 0, none⟩) ∧ T 6 = .int .i64 acc ∧ T 8 = .int .i64 (st.q.getD j 0) ∧ m = j ∧ PI N.arcs fl N.s st acc f j fl' ∧ pushP N.arcs st.b N.s acc f (st.q.getD j 0) fl' = pushP N.arcs st.b N.s acc N.n.toNat N.t fl ∧ Sub H1 G' ∧ G' bF = some ⟨fl'.map I64, true⟩)
      j0 ⟨j0, N.n.toNat, fl, by simp (maxSteps := 300000) (disch := omega) only [gs, gs2, gs3, ↓reduceIte, Nat.reduceEqDiff, Nat.mul_one, Nat.add_zero, Nat.zero_add, Nat.zero_mul, Int.toNat_natCast, Int.reduceToNat, Nat.reduceMul, Nat.reduceAdd, decide_true, decide_false, Bool.not_true, Bool.not_false, true_and, and_true, List.map_cons, List.map_nil, List.nil_append, List.cons_append, List.append_nil, Option.map_some, Option.bind_some, List.getElem?_cons_zero, List.getElem?_cons_succ, Bool.false_eq_true, not_true_eq_false, not_false_eq_true, List.contains_cons, List.contains_nil, Nat.reduceBEq, Bool.true_or, Bool.false_or, Bool.or_true, List.set_cons_zero, List.set_cons_succ, List.length_cons, List.length_nil, isLd, Bool.true_and, Bool.false_and, Bool.and_true, Bool.and_false, e1], by simp (maxSteps := 300000) (disch := omega) only [gs, gs2, gs3, ↓reduceIte, Nat.reduceEqDiff, Nat.mul_one, Nat.add_zero, Nat.zero_add, Nat.zero_mul, Int.toNat_natCast, Int.reduceToNat, Nat.reduceMul, Nat.reduceAdd, decide_true, decide_false, Bool.not_true, Bool.not_false, true_and, and_true, List.map_cons, List.map_nil, List.nil_append, List.cons_append, List.append_nil, Option.map_some, Option.bind_some, List.getElem?_cons_zero, List.getElem?_cons_succ, Bool.false_eq_true, not_true_eq_false, not_false_eq_true, List.contains_cons, List.contains_nil, Nat.reduceBEq, Bool.true_or, Bool.false_or, Bool.or_true, List.set_cons_zero, List.set_cons_succ, List.length_cons, List.length_nil, isLd, Bool.true_and, Bool.false_and, Bool.and_true, Bool.and_false, e2], by simp (maxSteps := 300000) (disch := omega) only [gs, gs2, gs3, ↓reduceIte, Nat.reduceEqDiff, Nat.mul_one, Nat.add_zero, Nat.zero_add, Nat.zero_mul, Int.toNat_natCast, Int.reduceToNat, Nat.reduceMul, Nat.reduceAdd, decide_true, decide_false, Bool.not_true, Bool.not_false, true_and, and_true, List.map_cons, List.map_nil, List.nil_append, List.cons_append, List.append_nil, Option.map_some, Option.bind_some, List.getElem?_cons_zero, List.getElem?_cons_succ, Bool.false_eq_true, not_true_eq_false, not_false_eq_true, List.contains_cons, List.contains_nil, Nat.reduceBEq, Bool.true_or, Bool.false_or, Bool.or_true, List.set_cons_zero, List.set_cons_succ, List.length_cons, List.length_nil, isLd, Bool.true_and, Bool.false_and, Bool.and_true, Bool.and_false, e3], by simp (maxSteps := 300000) (disch := omega) only [gs, gs2, gs3, ↓reduceIte, Nat.reduceEqDiff, Nat.mul_one, Nat.add_zero, Nat.zero_add, Nat.zero_mul, Int.toNat_natCast, Int.reduceToNat, Nat.reduceMul, Nat.reduceAdd, decide_true, decide_false, Bool.not_true, Bool.not_false, true_and, and_true, List.map_cons, List.map_nil, List.nil_append, List.cons_append, List.append_nil, Option.map_some, Option.bind_some, List.getElem?_cons_zero, List.getElem?_cons_succ, Bool.false_eq_true, not_true_eq_false, not_false_eq_true, List.contains_cons, List.contains_nil, Nat.reduceBEq, Bool.true_or, Bool.false_or, Bool.or_true, List.set_cons_zero, List.set_cons_succ, List.length_cons, List.length_nil, isLd, Bool.true_and, Bool.false_and, Bool.and_true, Bool.and_false, e6], by simp (maxSteps := 300000) (disch := omega) only [gs, gs2, gs3, ↓reduceIte, Nat.reduceEqDiff, Nat.mul_one, Nat.add_zero, Nat.zero_add, Nat.zero_mul, Int.toNat_natCast, Int.reduceToNat, Nat.reduceMul, Nat.reduceAdd, decide_true, decide_false, Bool.not_true, Bool.not_false, true_and, and_true, List.map_cons, List.map_nil, List.nil_append, List.cons_append, List.append_nil, Option.map_some, Option.bind_some, List.getElem?_cons_zero, List.getElem?_cons_succ, Bool.false_eq_true, not_true_eq_false, not_false_eq_true, List.contains_cons, List.contains_nil, Nat.reduceBEq, Bool.true_or, Bool.false_or, Bool.or_true, List.set_cons_zero, List.set_cons_succ, List.length_cons, List.length_nil, isLd, Bool.true_and, Bool.false_and, Bool.and_true, Bool.and_false] <;> rw [ej0], rfl, hPI, by rw [ej0], hS1, hF1⟩ ?_
    clear e1 e2 e3 e6 e7 hv hmin hj hjf hvr f0 f1 f2 f3
    rintro m' T G2 ⟨j, f, fl', e1, e2, e3, e6, e8, rfl, hP, hpp, hS2, hF2⟩
    have f0 := rd_sub hS2 k0
    have f1 := rd_sub hS2 k1
    have f2 := rd_sub hS2 k2
    have f3 := rd_sub hS2 k3
    have hvr := hI.rng (st.q.getD m' 0) (mem_getD'.2 ⟨m', hP.hj, rfl⟩)
    have r := flow_rd hF2
    have hl' := hP.cap.1
    simp (maxSteps := 300000) (disch := omega) only [gs, gs2, gs3, ↓reduceIte, Nat.reduceEqDiff, Nat.mul_one, Nat.add_zero, Nat.zero_add, Nat.zero_mul, Int.toNat_natCast, Int.reduceToNat, Nat.reduceMul, Nat.reduceAdd, decide_true, decide_false, Bool.not_true, Bool.not_false, true_and, and_true, List.map_cons, List.map_nil, List.nil_append, List.cons_append, List.append_nil, Option.map_some, Option.bind_some, List.getElem?_cons_zero, List.getElem?_cons_succ, Bool.false_eq_true, not_true_eq_false, not_false_eq_true, List.contains_cons, List.contains_nil, Nat.reduceBEq, Bool.true_or, Bool.false_or, Bool.or_true, List.set_cons_zero, List.set_cons_succ, List.length_cons, List.length_nil, isLd, Bool.true_and, Bool.false_and, Bool.and_true, Bool.and_false, e1, e2, e3, e6, e8, f1]
    by_cases hv : st.q.getD m' 0 = N.s
    · simp (maxSteps := 300000) (disch := omega) only [gs, gs2, gs3, ↓reduceIte, Nat.reduceEqDiff, Nat.mul_one, Nat.add_zero, Nat.zero_add, Nat.zero_mul, Int.toNat_natCast, Int.reduceToNat, Nat.reduceMul, Nat.reduceAdd, decide_true, decide_false, Bool.not_true, Bool.not_false, true_and, and_true, List.map_cons, List.map_nil, List.nil_append, List.cons_append, List.append_nil, Option.map_some, Option.bind_some, List.getElem?_cons_zero, List.getElem?_cons_succ, Bool.false_eq_true, not_true_eq_false, not_false_eq_true, List.contains_cons, List.contains_nil, Nat.reduceBEq, Bool.true_or, Bool.false_or, Bool.or_true, List.set_cons_zero, List.set_cons_succ, List.length_cons, List.length_nil, isLd, Bool.true_and, Bool.false_and, Bool.and_true, Bool.and_false, eq_true hv, e1, e2, e3, e6, e8]
      rw [hv, pushP_end] at hpp
      rw [← hpp] at hk
      exact hk _ (sH.trans hS2) hF2
    · simp (maxSteps := 300000) (disch := omega) only [gs, gs2, gs3, ↓reduceIte, Nat.reduceEqDiff, Nat.mul_one, Nat.add_zero, Nat.zero_add, Nat.zero_mul, Int.toNat_natCast, Int.reduceToNat, Nat.reduceMul, Nat.reduceAdd, decide_true, decide_false, Bool.not_true, Bool.not_false, true_and, and_true, List.map_cons, List.map_nil, List.nil_append, List.cons_append, List.append_nil, Option.map_some, Option.bind_some, List.getElem?_cons_zero, List.getElem?_cons_succ, Bool.false_eq_true, not_true_eq_false, not_false_eq_true, List.contains_cons, List.contains_nil, Nat.reduceBEq, Bool.true_or, Bool.false_or, Bool.or_true, List.set_cons_zero, List.set_cons_succ, List.length_cons, List.length_nil, isLd, Bool.true_and, Bool.false_and, Bool.and_true, Bool.and_false, eq_false hv, e1, e2, e3, e6, e8]
      obtain ⟨i, f', rfl, hij, ei, huv, hrm, hP', hpp'⟩ := hP.step hI (by omega) hv
      rw [hpp'] at hpp
      have hfr := rd_sub hS2 (hC1 (st.q.getD m' 0) (by omega) (by omega))
      have hfv : fromF N.s st (st.q.getD m' 0) = st.b (st.q.getD m' 0) := if_neg hv
      rw [hfv] at hfr
      have fin : ∀ G3 : GH, Sub H1 G3 → G3 bF = some ⟨(push N.arcs fl' (st.b (st.q.getD m' 0)) (st.q.getD m' 0) acc).map I64, true⟩ →
          ∃ k, k < m' ∧ ∃ G', Sub G' G3 ∧ ∃ (j f : Nat) (fl' : List Int), Value.int .i64 (st.b (st.q.getD m' 0)) = .int .i64 (st.q.getD j 0) ∧ k = j ∧ PI N.arcs fl N.s st acc f j fl' ∧ pushP N.arcs st.b N.s acc f (st.q.getD j 0) fl' = pushP N.arcs st.b N.s acc N.n.toNat N.t fl ∧ Sub H1 G' ∧ G' bF = some ⟨fl'.map I64, true⟩ :=
        fun G3 s3 hF3 => ⟨i, hij, G3, Sub.refl _, i, f', _, by rw [ei], rfl, hP', hpp, s3, hF3⟩
      generalize hV : st.q.getD m' 0 = V at *
      generalize hU : st.b V = U at *
      unfold rm at hrm
      unfold push at fin
      dsimp only at fin
      simp (maxSteps := 300000) (disch := omega) only [gs, gs2, gs3, ↓reduceIte, Nat.reduceEqDiff, Nat.mul_one, Nat.add_zero, Nat.zero_add, Nat.zero_mul, Int.toNat_natCast, Int.reduceToNat, Nat.reduceMul, Nat.reduceAdd, decide_true, decide_false, Bool.not_true, Bool.not_false, true_and, and_true, List.map_cons, List.map_nil, List.nil_append, List.cons_append, List.append_nil, Option.map_some, Option.bind_some, List.getElem?_cons_zero, List.getElem?_cons_succ, Bool.false_eq_true, not_true_eq_false, not_false_eq_true, List.contains_cons, List.contains_nil, Nat.reduceBEq, Bool.true_or, Bool.false_or, Bool.or_true, List.set_cons_zero, List.set_cons_succ, List.length_cons, List.length_nil, isLd, Bool.true_and, Bool.false_and, Bool.and_true, Bool.and_false, e1, e2, e3, e6, e8, f0, f1, f2, f3, hfr]
      refine impl_arcOf_ok (N := N) (a := V) (b := U) (h1.sub hS2) (by omega) ?_
      simp (maxSteps := 300000) (disch := omega) only [gs, gs2, gs3, ↓reduceIte, Nat.reduceEqDiff, Nat.mul_one, Nat.add_zero, Nat.zero_add, Nat.zero_mul, Int.toNat_natCast, Int.reduceToNat, Nat.reduceMul, Nat.reduceAdd, decide_true, decide_false, Bool.not_true, Bool.not_false, true_and, and_true, List.map_cons, List.map_nil, List.nil_append, List.cons_append, List.append_nil, Option.map_some, Option.bind_some, List.getElem?_cons_zero, List.getElem?_cons_succ, Bool.false_eq_true, not_true_eq_false, not_false_eq_true, List.contains_cons, List.contains_nil, Nat.reduceBEq, Bool.true_or, Bool.false_or, Bool.or_true, List.set_cons_zero, List.set_cons_succ, List.length_cons, List.length_nil, isLd, Bool.true_and, Bool.false_and, Bool.and_true, Bool.and_false, e1, e2, e3, e6, e8, f0, f1, f2, f3, hfr]
      by_cases g1 : 0 ≤ arcI N.arcs V U
      · obtain ⟨l1, _, _⟩ := arcI_lt _ _ _ g1
        have c1 := cap_bd hn hP.cap l1
        simp only [if_pos g1] at fin hrm
        simp (maxSteps := 300000) (disch := omega) only [gs, gs2, gs3, ↓reduceIte, Nat.reduceEqDiff, Nat.mul_one, Nat.add_zero, Nat.zero_add, Nat.zero_mul, Int.toNat_natCast, Int.reduceToNat, Nat.reduceMul, Nat.reduceAdd, decide_true, decide_false, Bool.not_true, Bool.not_false, true_and, and_true, List.map_cons, List.map_nil, List.nil_append, List.cons_append, List.append_nil, Option.map_some, Option.bind_some, List.getElem?_cons_zero, List.getElem?_cons_succ, Bool.false_eq_true, not_true_eq_false, not_false_eq_true, List.contains_cons, List.contains_nil, Nat.reduceBEq, Bool.true_or, Bool.false_or, Bool.or_true, List.set_cons_zero, List.set_cons_succ, List.length_cons, List.length_nil, isLd, Bool.true_and, Bool.false_and, Bool.and_true, Bool.and_false, g1, e1, e2, e3, e6, e8, f0, f1, f2, f3, hfr, r]
        generalize hm0 : (if fl'.getD (arcI N.arcs V U).toNat 0 < acc then fl'.getD (arcI N.arcs V U).toNat 0 else acc) = m0 at *
        have hm0b : 0 ≤ m0 ∧ m0 ≤ acc ∧ m0 ≤ fl'.getD (arcI N.arcs V U).toNat 0 := by rw [← hm0]; split <;> omega
        try simp (maxSteps := 300000) (disch := omega) only [gs, gs2, gs3, ↓reduceIte, Nat.reduceEqDiff, Nat.mul_one, Nat.add_zero, Nat.zero_add, Nat.zero_mul, Int.toNat_natCast, Int.reduceToNat, Nat.reduceMul, Nat.reduceAdd, decide_true, decide_false, Bool.not_true, Bool.not_false, true_and, and_true, List.map_cons, List.map_nil, List.nil_append, List.cons_append, List.append_nil, Option.map_some, Option.bind_some, List.getElem?_cons_zero, List.getElem?_cons_succ, Bool.false_eq_true, not_true_eq_false, not_false_eq_true, List.contains_cons, List.contains_nil, Nat.reduceBEq, Bool.true_or, Bool.false_or, Bool.or_true, List.set_cons_zero, List.set_cons_succ, List.length_cons, List.length_nil, isLd, Bool.true_and, Bool.false_and, Bool.and_true, Bool.and_false, e1, e2, e3, e6, e8, f0, f1, f2, f3, hfr, r]
        refine st_one hF2 (by rw [List.length_map]; omega) rfl ?_
        have hF3 : put G2 bF ⟨(fl'.map I64).set (arcI N.arcs V U).toNat (.int .i64 (fl'.getD (arcI N.arcs V U).toNat 0 - m0)), true⟩ bF = some ⟨(fl'.set (arcI N.arcs V U).toNat (fl'.getD (arcI N.arcs V U).toNat 0 - m0)).map I64, true⟩ := by rw [put_same, map_set]
        have hS3 : Sub H1 (put G2 bF ⟨(fl'.map I64).set (arcI N.arcs V U).toNat (.int .i64 (fl'.getD (arcI N.arcs V U).toNat 0 - m0)), true⟩) := hS2.skip hH1
        revert hF3 hS3
        generalize put G2 bF ⟨(fl'.map I64).set (arcI N.arcs V U).toNat (.int .i64 (fl'.getD (arcI N.arcs V U).toNat 0 - m0)), true⟩ = G3
        intro hF3 hS3
        have hcap1 : ∀ i, i < N.arcs.length → 0 ≤ (fl'.set (arcI N.arcs V U).toNat (fl'.getD (arcI N.arcs V U).toNat 0 - m0)).getD i 0 ∧ (fl'.set (arcI N.arcs V U).toNat (fl'.getD (arcI N.arcs V U).toNat 0 - m0)).getD i 0 ≤ 1000000 := fun i hi => by
          have := cap_bd hn hP.cap hi
          rw [getD_set _ _ _ _ (by omega)]
          split <;> omega
        have hlen1 : (fl'.set (arcI N.arcs V U).toNat (fl'.getD (arcI N.arcs V U).toNat 0 - m0)).length = fl'.length := by simp
        generalize fl'.set (arcI N.arcs V U).toNat (fl'.getD (arcI N.arcs V U).toNat 0 - m0) = fl1 at *
        have f0 := rd_sub hS3 k0
        have f1 := rd_sub hS3 k1
        have f2 := rd_sub hS3 k2
        have f3 := rd_sub hS3 k3
        have hfr3 := rd_sub hS3 (hC1 V (by omega) (by omega))
        rw [hfv] at hfr3
        have r3 := flow_rd hF3
        simp (maxSteps := 300000) (disch := omega) only [gs, gs2, gs3, ↓reduceIte, Nat.reduceEqDiff, Nat.mul_one, Nat.add_zero, Nat.zero_add, Nat.zero_mul, Int.toNat_natCast, Int.reduceToNat, Nat.reduceMul, Nat.reduceAdd, decide_true, decide_false, Bool.not_true, Bool.not_false, true_and, and_true, List.map_cons, List.map_nil, List.nil_append, List.cons_append, List.append_nil, Option.map_some, Option.bind_some, List.getElem?_cons_zero, List.getElem?_cons_succ, Bool.false_eq_true, not_true_eq_false, not_false_eq_true, List.contains_cons, List.contains_nil, Nat.reduceBEq, Bool.true_or, Bool.false_or, Bool.or_true, List.set_cons_zero, List.set_cons_succ, List.length_cons, List.length_nil, isLd, Bool.true_and, Bool.false_and, Bool.and_true, Bool.and_false, e1, e2, e3, e6, e8, f0, f1, f2, f3, hfr3]
        by_cases g3 : 0 < acc - m0
        · simp (maxSteps := 300000) (disch := omega) only [gs, gs2, gs3, ↓reduceIte, Nat.reduceEqDiff, Nat.mul_one, Nat.add_zero, Nat.zero_add, Nat.zero_mul, Int.toNat_natCast, Int.reduceToNat, Nat.reduceMul, Nat.reduceAdd, decide_true, decide_false, Bool.not_true, Bool.not_false, true_and, and_true, List.map_cons, List.map_nil, List.nil_append, List.cons_append, List.append_nil, Option.map_some, Option.bind_some, List.getElem?_cons_zero, List.getElem?_cons_succ, Bool.false_eq_true, not_true_eq_false, not_false_eq_true, List.contains_cons, List.contains_nil, Nat.reduceBEq, Bool.true_or, Bool.false_or, Bool.or_true, List.set_cons_zero, List.set_cons_succ, List.length_cons, List.length_nil, isLd, Bool.true_and, Bool.false_and, Bool.and_true, Bool.and_false, g3, e1, e2, e3, e6, e8, f0, f1, f2, f3, hfr3]
          have g2 : 0 ≤ arcI N.arcs U V := by
            by_cases g2 : 0 ≤ arcI N.arcs U V
            · exact g2
            · rw [if_neg g2] at hrm
              rw [← hm0] at g3
              split at g3 <;> omega
          obtain ⟨l2, _, _⟩ := arcI_lt _ _ _ g2
          have c2 := hcap1 _ l2
          simp only [if_pos g2] at fin
          refine impl_arcOf_ok (N := N) (a := U) (b := V) (h1.sub hS3) (by omega) ?_
          simp (maxSteps := 300000) (disch := omega) only [gs, gs2, gs3, ↓reduceIte, Nat.reduceEqDiff, Nat.mul_one, Nat.add_zero, Nat.zero_add, Nat.zero_mul, Int.toNat_natCast, Int.reduceToNat, Nat.reduceMul, Nat.reduceAdd, decide_true, decide_false, Bool.not_true, Bool.not_false, true_and, and_true, List.map_cons, List.map_nil, List.nil_append, List.cons_append, List.append_nil, Option.map_some, Option.bind_some, List.getElem?_cons_zero, List.getElem?_cons_succ, Bool.false_eq_true, not_true_eq_false, not_false_eq_true, List.contains_cons, List.contains_nil, Nat.reduceBEq, Bool.true_or, Bool.false_or, Bool.or_true, List.set_cons_zero, List.set_cons_succ, List.length_cons, List.length_nil, isLd, Bool.true_and, Bool.false_and, Bool.and_true, Bool.and_false, e1, e2, e3, e6, e8, f0, f1, f2, f3, hfr3, r3]
          refine st_one hF3 (by rw [List.length_map]; omega) rfl ?_
          have hF4 : put G3 bF ⟨(fl1.map I64).set (arcI N.arcs U V).toNat (.int .i64 (fl1.getD (arcI N.arcs U V).toNat 0 + (acc - m0))), true⟩ bF = some ⟨(fl1.set (arcI N.arcs U V).toNat (fl1.getD (arcI N.arcs U V).toNat 0 + (acc - m0))).map I64, true⟩ := by rw [put_same, map_set]
          have hS4 : Sub H1 (put G3 bF ⟨(fl1.map I64).set (arcI N.arcs U V).toNat (.int .i64 (fl1.getD (arcI N.arcs U V).toNat 0 + (acc - m0))), true⟩) := hS3.skip hH1
          revert hF4 hS4
          generalize put G3 bF ⟨(fl1.map I64).set (arcI N.arcs U V).toNat (.int .i64 (fl1.getD (arcI N.arcs U V).toNat 0 + (acc - m0))), true⟩ = G4
          intro hF4 hS4
          have hfr4 := rd_sub hS4 (hC1 V (by omega) (by omega))
          rw [hfv] at hfr4
          simp (maxSteps := 300000) (disch := omega) only [gs, gs2, gs3, ↓reduceIte, Nat.reduceEqDiff, Nat.mul_one, Nat.add_zero, Nat.zero_add, Nat.zero_mul, Int.toNat_natCast, Int.reduceToNat, Nat.reduceMul, Nat.reduceAdd, decide_true, decide_false, Bool.not_true, Bool.not_false, true_and, and_true, List.map_cons, List.map_nil, List.nil_append, List.cons_append, List.append_nil, Option.map_some, Option.bind_some, List.getElem?_cons_zero, List.getElem?_cons_succ, Bool.false_eq_true, not_true_eq_false, not_false_eq_true, List.contains_cons, List.contains_nil, Nat.reduceBEq, Bool.true_or, Bool.false_or, Bool.or_true, List.set_cons_zero, List.set_cons_succ, List.length_cons, List.length_nil, isLd, Bool.true_and, Bool.false_and, Bool.and_true, Bool.and_false, e1, e2, e3, e6, e8, hfr4]
          exact fin G4 hS4 hF4
        · simp (maxSteps := 300000) (disch := omega) only [gs, gs2, gs3, ↓reduceIte, Nat.reduceEqDiff, Nat.mul_one, Nat.add_zero, Nat.zero_add, Nat.zero_mul, Int.toNat_natCast, Int.reduceToNat, Nat.reduceMul, Nat.reduceAdd, decide_true, decide_false, Bool.not_true, Bool.not_false, true_and, and_true, List.map_cons, List.map_nil, List.nil_append, List.cons_append, List.append_nil, Option.map_some, Option.bind_some, List.getElem?_cons_zero, List.getElem?_cons_succ, Bool.false_eq_true, not_true_eq_false, not_false_eq_true, List.contains_cons, List.contains_nil, Nat.reduceBEq, Bool.true_or, Bool.false_or, Bool.or_true, List.set_cons_zero, List.set_cons_succ, List.length_cons, List.length_nil, isLd, Bool.true_and, Bool.false_and, Bool.and_true, Bool.and_false, g3, e1, e2, e3, e6, e8, f0, f1, f2, f3, hfr3]
          have hz : acc - m0 = 0 := by omega
          have hsame : (if 0 ≤ arcI N.arcs U V then fl1.set (arcI N.arcs U V).toNat (fl1.getD (arcI N.arcs U V).toNat 0 + (acc - m0)) else fl1) = fl1 := by
            rw [hz]; split
            · exact set_same
            · rfl
          rw [hsame] at fin
          exact fin G3 hS3 hF3
      · simp only [if_neg g1] at fin hrm
        have hfr2 := hfr
        simp (maxSteps := 300000) (disch := omega) only [gs, gs2, gs3, ↓reduceIte, Nat.reduceEqDiff, Nat.mul_one, Nat.add_zero, Nat.zero_add, Nat.zero_mul, Int.toNat_natCast, Int.reduceToNat, Nat.reduceMul, Nat.reduceAdd, decide_true, decide_false, Bool.not_true, Bool.not_false, true_and, and_true, List.map_cons, List.map_nil, List.nil_append, List.cons_append, List.append_nil, Option.map_some, Option.bind_some, List.getElem?_cons_zero, List.getElem?_cons_succ, Bool.false_eq_true, not_true_eq_false, not_false_eq_true, List.contains_cons, List.contains_nil, Nat.reduceBEq, Bool.true_or, Bool.false_or, Bool.or_true, List.set_cons_zero, List.set_cons_succ, List.length_cons, List.length_nil, isLd, Bool.true_and, Bool.false_and, Bool.and_true, Bool.and_false, g1, e1, e2, e3, e6, e8, f0, f1, f2, f3, hfr]
        have g2 : 0 ≤ arcI N.arcs U V := by
          by_cases g2 : 0 ≤ arcI N.arcs U V
          · exact g2
          · rw [if_neg g2] at hrm; omega
        obtain ⟨l2, _, _⟩ := arcI_lt _ _ _ g2
        have c2 := cap_bd hn hP.cap l2
        simp only [if_pos g2] at fin
        simp (maxSteps := 300000) (disch := omega) only [gs, gs2, gs3, ↓reduceIte, Nat.reduceEqDiff, Nat.mul_one, Nat.add_zero, Nat.zero_add, Nat.zero_mul, Int.toNat_natCast, Int.reduceToNat, Nat.reduceMul, Nat.reduceAdd, decide_true, decide_false, Bool.not_true, Bool.not_false, true_and, and_true, List.map_cons, List.map_nil, List.nil_append, List.cons_append, List.append_nil, Option.map_some, Option.bind_some, List.getElem?_cons_zero, List.getElem?_cons_succ, Bool.false_eq_true, not_true_eq_false, not_false_eq_true, List.contains_cons, List.contains_nil, Nat.reduceBEq, Bool.true_or, Bool.false_or, Bool.or_true, List.set_cons_zero, List.set_cons_succ, List.length_cons, List.length_nil, isLd, Bool.true_and, Bool.false_and, Bool.and_true, Bool.and_false, hpos, e1, e2, e3, e6, e8, f0, f1, f2, f3, hfr]
        refine impl_arcOf_ok (N := N) (a := U) (b := V) (h1.sub hS2) (by omega) ?_
        simp (maxSteps := 300000) (disch := omega) only [gs, gs2, gs3, ↓reduceIte, Nat.reduceEqDiff, Nat.mul_one, Nat.add_zero, Nat.zero_add, Nat.zero_mul, Int.toNat_natCast, Int.reduceToNat, Nat.reduceMul, Nat.reduceAdd, decide_true, decide_false, Bool.not_true, Bool.not_false, true_and, and_true, List.map_cons, List.map_nil, List.nil_append, List.cons_append, List.append_nil, Option.map_some, Option.bind_some, List.getElem?_cons_zero, List.getElem?_cons_succ, Bool.false_eq_true, not_true_eq_false, not_false_eq_true, List.contains_cons, List.contains_nil, Nat.reduceBEq, Bool.true_or, Bool.false_or, Bool.or_true, List.set_cons_zero, List.set_cons_succ, List.length_cons, List.length_nil, isLd, Bool.true_and, Bool.false_and, Bool.and_true, Bool.and_false, e1, e2, e3, e6, e8, f0, f1, f2, f3, hfr, r]
        refine st_one hF2 (by rw [List.length_map]; omega) rfl ?_
        have hF4 : put G2 bF ⟨(fl'.map I64).set (arcI N.arcs U V).toNat (.int .i64 (fl'.getD (arcI N.arcs U V).toNat 0 + acc)), true⟩ bF = some ⟨(fl'.set (arcI N.arcs U V).toNat (fl'.getD (arcI N.arcs U V).toNat 0 + acc)).map I64, true⟩ := by rw [put_same, map_set]
        have hS4 : Sub H1 (put G2 bF ⟨(fl'.map I64).set (arcI N.arcs U V).toNat (.int .i64 (fl'.getD (arcI N.arcs U V).toNat 0 + acc)), true⟩) := hS2.skip hH1
        revert hF4 hS4
        generalize put G2 bF ⟨(fl'.map I64).set (arcI N.arcs U V).toNat (.int .i64 (fl'.getD (arcI N.arcs U V).toNat 0 + acc)), true⟩ = G4
        intro hF4 hS4
        have hfr4 := rd_sub hS4 (hC1 V (by omega) (by omega))
        rw [hfv] at hfr4
        simp (maxSteps := 300000) (disch := omega) only [gs, gs2, gs3, ↓reduceIte, Nat.reduceEqDiff, Nat.mul_one, Nat.add_zero, Nat.zero_add, Nat.zero_mul, Int.toNat_natCast, Int.reduceToNat, Nat.reduceMul, Nat.reduceAdd, decide_true, decide_false, Bool.not_true, Bool.not_false, true_and, and_true, List.map_cons, List.map_nil, List.nil_append, List.cons_append, List.append_nil, Option.map_some, Option.bind_some, List.getElem?_cons_zero, List.getElem?_cons_succ, Bool.false_eq_true, not_true_eq_false, not_false_eq_true, List.contains_cons, List.contains_nil, Nat.reduceBEq, Bool.true_or, Bool.false_or, Bool.or_true, List.set_cons_zero, List.set_cons_succ, List.length_cons, List.length_nil, isLd, Bool.true_and, Bool.false_and, Bool.and_true, Bool.and_false, e1, e2, e3, e6, e8, hfr4]
        exact fin G4 hS4 hF4
  · simp (maxSteps := 300000) (disch := omega) only [gs, gs2, gs3, ↓reduceIte, Nat.reduceEqDiff, Nat.mul_one, Nat.add_zero, Nat.zero_add, Nat.zero_mul, Int.toNat_natCast, Int.reduceToNat, Nat.reduceMul, Nat.reduceAdd, decide_true, decide_false, Bool.not_true, Bool.not_false, true_and, and_true, List.map_cons, List.map_nil, List.nil_append, List.cons_append, List.append_nil, Option.map_some, Option.bind_some, List.getElem?_cons_zero, List.getElem?_cons_succ, Bool.false_eq_true, not_true_eq_false, not_false_eq_true, List.contains_cons, List.contains_nil, Nat.reduceBEq, Bool.true_or, Bool.false_or, Bool.or_true, List.set_cons_zero, List.set_cons_succ, List.length_cons, List.length_nil, isLd, Bool.true_and, Bool.false_and, Bool.and_true, Bool.and_false, eq_false hv, e1, e2, e3, e6, e7, f1]
    obtain ⟨i, f', rfl, hij, ei, hmin'⟩ := minP_step hI hj hjf hv acc
    rw [hmin'] at hmin
    have hfr := rd_sub hS1 (hC1 (st.q.getD m 0) (by omega) (by omega))
    have hfv : fromF N.s st (st.q.getD m 0) = st.b (st.q.getD m 0) := if_neg hv
    rw [hfv] at hfr
    simp (maxSteps := 300000) (disch := omega) only [gs, gs2, gs3, ↓reduceIte, Nat.reduceEqDiff, Nat.mul_one, Nat.add_zero, Nat.zero_add, Nat.zero_mul, Int.toNat_natCast, Int.reduceToNat, Nat.reduceMul, Nat.reduceAdd, decide_true, decide_false, Bool.not_true, Bool.not_false, true_and, and_true, List.map_cons, List.map_nil, List.nil_append, List.cons_append, List.append_nil, Option.map_some, Option.bind_some, List.getElem?_cons_zero, List.getElem?_cons_succ, Bool.false_eq_true, not_true_eq_false, not_false_eq_true, List.contains_cons, List.contains_nil, Nat.reduceBEq, Bool.true_or, Bool.false_or, Bool.or_true, List.set_cons_zero, List.set_cons_succ, List.length_cons, List.length_nil, isLd, Bool.true_and, Bool.false_and, Bool.and_true, Bool.and_false, e1, e2, e3, e6, e7, f0, f1, f2, f3, hfr]
    refine impl_room_ok (N := N) (h1.sub hS1) (blk_ints hF1) hn hc ?_
    simp (maxSteps := 300000) (disch := omega) only [gs, gs2, gs3, ↓reduceIte, Nat.reduceEqDiff, Nat.mul_one, Nat.add_zero, Nat.zero_add, Nat.zero_mul, Int.toNat_natCast, Int.reduceToNat, Nat.reduceMul, Nat.reduceAdd, decide_true, decide_false, Bool.not_true, Bool.not_false, true_and, and_true, List.map_cons, List.map_nil, List.nil_append, List.cons_append, List.append_nil, Option.map_some, Option.bind_some, List.getElem?_cons_zero, List.getElem?_cons_succ, Bool.false_eq_true, not_true_eq_false, not_false_eq_true, List.contains_cons, List.contains_nil, Nat.reduceBEq, Bool.true_or, Bool.false_or, Bool.or_true, List.set_cons_zero, List.set_cons_succ, List.length_cons, List.length_nil, isLd, Bool.true_and, Bool.false_and, Bool.and_true, Bool.and_false, e1, e2, e3, e6, e7, f0, f1, f2, f3, hfr]
    exact ⟨i, by omega, _, Sub.refl _, i, f', _, rfl, by rw [ei], rfl, by omega, by omega, hmin, rfl⟩
theorem cmp_Less_ok {G : GH} (a b : Int) {K : Value → GH → Prop} (hk : K (.bool (decide (a < b))) G) : GC Try.prog 270 [.int .i64 a, .int .i64 b] G K := by
  refine c_cmp_Less_int64_i (by simp) ?_
  simp (maxSteps := 300000) (disch := omega) only [gs, gs2, gs3, ↓reduceIte, Nat.reduceEqDiff, Nat.mul_one, Nat.add_zero, Nat.zero_add, Nat.zero_mul, Int.toNat_natCast, Int.reduceToNat, Nat.reduceMul, Nat.reduceAdd, decide_true, decide_false, Bool.not_true, Bool.not_false, true_and, and_true, List.map_cons, List.map_nil, List.nil_append, List.cons_append, List.append_nil, Option.map_some, Option.bind_some, List.getElem?_cons_zero, List.getElem?_cons_succ, Bool.false_eq_true, not_true_eq_false, not_false_eq_true, List.contains_cons, List.contains_nil, Nat.reduceBEq, Bool.true_or, Bool.false_or, Bool.or_true, List.set_cons_zero, List.set_cons_succ, List.length_cons, List.length_nil, isLd, Bool.true_and, Bool.false_and, Bool.and_true, Bool.and_false]
  refine cmp_isNaN_ok _ ?_
  simp (maxSteps := 300000) (disch := omega) only [gs, gs2, gs3, ↓reduceIte, Nat.reduceEqDiff, Nat.mul_one, Nat.add_zero, Nat.zero_add, Nat.zero_mul, Int.toNat_natCast, Int.reduceToNat, Nat.reduceMul, Nat.reduceAdd, decide_true, decide_false, Bool.not_true, Bool.not_false, true_and, and_true, List.map_cons, List.map_nil, List.nil_append, List.cons_append, List.append_nil, Option.map_some, Option.bind_some, List.getElem?_cons_zero, List.getElem?_cons_succ, Bool.false_eq_true, not_true_eq_false, not_false_eq_true, List.contains_cons, List.contains_nil, Nat.reduceBEq, Bool.true_or, Bool.false_or, Bool.or_true, List.set_cons_zero, List.set_cons_succ, List.length_cons, List.length_nil, isLd, Bool.true_and, Bool.false_and, Bool.and_true, Bool.and_false]
  exact hk
/-- neighbours change places. -/
def sw (ys : List Int) (j : Nat) : List Int := (ys.set j (ys.getD (j - 1) 0)).set (j - 1) (ys.getD j 0)
theorem sw_len (ys : List Int) (j : Nat) : (sw ys j).length = ys.length := by simp [sw]
theorem sw_get {ys : List Int} {j : Nat} (h0 : 0 < j) (hj : j < ys.length) (p : Nat) : (sw ys j).getD p 0 = if p = j - 1 then ys.getD j 0 else if p = j then ys.getD (j - 1) 0 else ys.getD p 0 := by
  unfold sw
  rw [getD_set _ _ _ _ (by rw [List.length_set]; omega), getD_set _ _ _ _ hj]
/-- the same numbers, each once. -/
structure Same (xs ys : List Int) : Prop where
  len : ys.length = xs.length
  inj : ∀ p q, p < ys.length → q < ys.length → ys.getD p 0 = ys.getD q 0 → p = q
  mem : ∀ v, v ∈ ys ↔ v ∈ xs
theorem Same.sw {xs ys : List Int} (h : Same xs ys) {j : Nat} (h0 : 0 < j) (hj : j < ys.length) : Same xs (sw ys j) := by
  have hg := sw_get h0 hj
  refine ⟨by rw [sw_len]; exact h.len, fun p q hp hq e => ?_, fun v => ?_⟩
  · rw [sw_len] at hp hq
    rw [hg, hg] at e
    have key : ∀ a b, a < ys.length → b < ys.length → ys.getD a 0 = ys.getD b 0 → a = b := h.inj
    by_cases p1 : p = j - 1
    · by_cases q1 : q = j - 1
      · omega
      · rw [if_pos p1, if_neg q1] at e
        by_cases q2 : q = j
        · rw [if_pos q2] at e; have := key _ _ hj (by omega) e; omega
        · rw [if_neg q2] at e; have := key _ _ hj hq e; omega
    · by_cases p2 : p = j
      · rw [if_neg p1, if_pos p2] at e
        by_cases q1 : q = j - 1
        · rw [if_pos q1] at e; have := key _ _ (by omega) hj e; omega
        · by_cases q2 : q = j
          · omega
          · rw [if_neg q1, if_neg q2] at e; have := key _ _ (by omega) hq e; omega
      · rw [if_neg p1, if_neg p2] at e
        by_cases q1 : q = j - 1
        · rw [if_pos q1] at e; have := key _ _ hp hj e; omega
        · by_cases q2 : q = j
          · rw [if_neg q1, if_pos q2] at e; have := key _ _ hp (by omega) e; omega
          · rw [if_neg q1, if_neg q2] at e; exact key _ _ hp hq e
  · rw [← h.mem, mem_getD, mem_getD]
    constructor
    · rintro ⟨p, hp, rfl⟩
      rw [sw_len] at hp
      rw [hg]
      by_cases p1 : p = j - 1
      · rw [if_pos p1]; exact ⟨j, hj, rfl⟩
      · rw [if_neg p1]
        by_cases p2 : p = j
        · rw [if_pos p2]; exact ⟨j - 1, by omega, rfl⟩
        · rw [if_neg p2]; exact ⟨p, hp, rfl⟩
    · rintro ⟨p, hp, rfl⟩
      by_cases p1 : p = j - 1
      · exact ⟨j, by rw [sw_len]; exact hj, by rw [hg, if_neg (by omega), if_pos rfl, p1]⟩
      · by_cases p2 : p = j
        · exact ⟨j - 1, by rw [sw_len]; omega, by rw [hg, if_pos rfl, p2]⟩
        · exact ⟨p, by rw [sw_len]; exact hp, by rw [hg, if_neg p1, if_neg p2]⟩
theorem sw_cells {ys : List Int} {j : Nat} (h0 : 0 < j) (hj : j < ys.length) (r : List Value) : ((ys.map I64 ++ r).set j (.int .i64 (ys.getD (j - 1) 0))).set (j - 1) (.int .i64 (ys.getD j 0)) = (sw ys j).map I64 ++ r := by
  unfold sw
  rw [List.set_append_left _ _ (by rw [List.length_map]; exact hj), List.set_append_left _ _ (by rw [List.length_set, List.length_map]; omega), List.map_set, List.map_set]
  rfl

end Go.Proofs.Ytmlkgpoakkgjbaa.Gh
