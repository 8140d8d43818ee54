/- What the functions that the law FnOpinions reaches return, and the law; it stands under no condition. -/
import Derived.Test.YtmlkgpoakkgjbaaYFnOpinionsb
namespace Go.Proofs.Ytmlkgpoakkgjbaa.Gh
open Go Go.RowKit Go.Proofs
set_option linter.unusedVariables false
set_option linter.unusedSimpArgs false
set_option maxHeartbeats 4000000

theorem impl_averaged_ok {G : GH} {N : Gra} {A B C : Option Addr} {c d e : Nat} {xs fixed : List Int} {own lim : Int} (h : T3S G A c N.edges) (hf : IntS G B d xs) (hg : IntS G C e fixed) (hl2 : fixed.length < 2 ^ 40) (hn : GraOk N) (hx : VecOk N xs) (ho : 0 ≤ own ∧ own ≤ 1000) {K : Value → GH → Prop}
    (hk : ∀ G' A' c', New G G' A' c' ((avStep N.edges own lim fixed xs).map I64) 1 xs.length → K (.slice A' xs.length c') G') : GC Try.prog 120 [graV N A c, .slice B xs.length d, .int .i64 own, .int .i64 lim, .slice C fixed.length e] G K := by
  refine GC_drop (c_impl_averaged_i (by simp) ?_)
  have hn1 := hn.1
  have hx1 := hx.1
  unfold graV graC
  simp (maxSteps := 300000) (disch := omega) only [gs, gs2, gs3, ↓reduceIte, Nat.reduceEqDiff, Nat.mul_one, Nat.add_zero, Nat.zero_add, Nat.zero_mul, Int.toNat_natCast, Int.reduceToNat, Nat.reduceMul, Nat.reduceAdd, decide_true, decide_false, Bool.not_true, Bool.not_false, true_and, and_true, List.map_cons, List.map_nil, List.nil_append, List.cons_append, List.append_nil, Option.map_some, Option.bind_some, List.getElem?_cons_zero, List.getElem?_cons_succ, Bool.false_eq_true, not_true_eq_false, not_false_eq_true, List.contains_cons, List.contains_nil, Nat.reduceBEq, Bool.true_or, Bool.false_or, Bool.or_true, List.set_cons_zero, List.set_cons_succ, List.length_cons, List.length_nil, isLd, Bool.true_and, Bool.false_and, Bool.and_true, Bool.and_false]
  intro b5 hb5
  have s1 := Sub.put hb5 ⟨[.int .i64 N.n, .slice A N.edges.length c], true⟩
  have f0 : rd (put G b5 ⟨[.int .i64 N.n, .slice A N.edges.length c], true⟩) (some ⟨b5, 0, none⟩) = some (.int .i64 N.n) := rd_box _ _ _ 0 _ rfl
  have f1 : rd (put G b5 ⟨[.int .i64 N.n, .slice A N.edges.length c], true⟩) (some ⟨b5, 1, none⟩) = some (.slice A N.edges.length c) := rd_box _ _ _ 1 _ rfl
  revert s1 f0 f1
  generalize put G b5 ⟨[.int .i64 N.n, .slice A N.edges.length c], true⟩ = G1
  intro s1 f0 f1
  simp (maxSteps := 300000) (disch := omega) only [gs, gs2, gs3, ↓reduceIte, Nat.reduceEqDiff, Nat.mul_one, Nat.add_zero, Nat.zero_add, Nat.zero_mul, Int.toNat_natCast, Int.reduceToNat, Nat.reduceMul, Nat.reduceAdd, decide_true, decide_false, Bool.not_true, Bool.not_false, true_and, and_true, List.map_cons, List.map_nil, List.nil_append, List.cons_append, List.append_nil, Option.map_some, Option.bind_some, List.getElem?_cons_zero, List.getElem?_cons_succ, Bool.false_eq_true, not_true_eq_false, not_false_eq_true, List.contains_cons, List.contains_nil, Nat.reduceBEq, Bool.true_or, Bool.false_or, Bool.or_true, List.set_cons_zero, List.set_cons_succ, List.length_cons, List.length_nil, isLd, Bool.true_and, Bool.false_and, Bool.and_true, Bool.and_false, f0]
  refine ⟨?_, ?_⟩
  · refine ⟨xs.length, xs.length, by rw [hx1], by rw [hx1], Nat.le_refl _, by omega, by omega, fun bS hbbS => ?_⟩
    have f0' := rd_sub (Sub.put hbbS ⟨zc [.int .i64 0] xs.length, true⟩) f0
    simp (maxSteps := 300000) (disch := omega) only [gs, gs2, gs3, ↓reduceIte, Nat.reduceEqDiff, Nat.mul_one, Nat.add_zero, Nat.zero_add, Nat.zero_mul, Int.toNat_natCast, Int.reduceToNat, Nat.reduceMul, Nat.reduceAdd, decide_true, decide_false, Bool.not_true, Bool.not_false, true_and, and_true, List.map_cons, List.map_nil, List.nil_append, List.cons_append, List.append_nil, Option.map_some, Option.bind_some, List.getElem?_cons_zero, List.getElem?_cons_succ, Bool.false_eq_true, not_true_eq_false, not_false_eq_true, List.contains_cons, List.contains_nil, Nat.reduceBEq, Bool.true_or, Bool.false_or, Bool.or_true, List.set_cons_zero, List.set_cons_succ, List.length_cons, List.length_nil, isLd, Bool.true_and, Bool.false_and, Bool.and_true, Bool.and_false, f0']
    refine ⟨xs.length, xs.length, by rw [hx1], by rw [hx1], Nat.le_refl _, by omega, by omega, fun bW hbbW => ?_⟩
    have f0'' := rd_sub (Sub.put hbbW ⟨zc [.int .i64 0] xs.length, true⟩) f0'
    simp (maxSteps := 300000) (disch := omega) only [gs, gs2, gs3, ↓reduceIte, Nat.reduceEqDiff, Nat.mul_one, Nat.add_zero, Nat.zero_add, Nat.zero_mul, Int.toNat_natCast, Int.reduceToNat, Nat.reduceMul, Nat.reduceAdd, decide_true, decide_false, Bool.not_true, Bool.not_false, true_and, and_true, List.map_cons, List.map_nil, List.nil_append, List.cons_append, List.append_nil, Option.map_some, Option.bind_some, List.getElem?_cons_zero, List.getElem?_cons_succ, Bool.false_eq_true, not_true_eq_false, not_false_eq_true, List.contains_cons, List.contains_nil, Nat.reduceBEq, Bool.true_or, Bool.false_or, Bool.or_true, List.set_cons_zero, List.set_cons_succ, List.length_cons, List.length_nil, isLd, Bool.true_and, Bool.false_and, Bool.and_true, Bool.and_false, f0', f0'']
    have hA0 : AvG G1 (put (put G1 bS ⟨zc [.int .i64 0] xs.length, true⟩) bW ⟨zc [.int .i64 0] xs.length, true⟩) bS bW xs.length [] [] (fun _ => 0) (fun _ => 0) := by
      have hz : zc [.int .i64 0] xs.length = fcells xs.length (fun _ => 0) ++ [] := by rw [zc_one, rep_range, List.append_nil]; rfl
      have q : bW ≠ bS ∧ G1 bW = none := put_none.1 hbbW
      rw [hz]
      exact ⟨((Sub.refl G1).skip hbbS).skip q.2, hbbS, q.2, q.1.symm, by rw [put_ne _ _ q.1.symm, put_same], put_same _ _ _⟩
    revert hA0
    generalize put (put G1 bS ⟨zc [.int .i64 0] xs.length, true⟩) bW ⟨zc [.int .i64 0] xs.length, true⟩ = G2
    intro hA0
    refine averaged_l0 (lim := lim) (fixed := fixed) (C := C) (e := e) (b5 := b5) (hf.sub s1) hx hn ho (by simp (maxSteps := 300000) (disch := omega) only [gs, gs2, gs3, ↓reduceIte, Nat.reduceEqDiff, Nat.mul_one, Nat.add_zero, Nat.zero_add, Nat.zero_mul, Int.toNat_natCast, Int.reduceToNat, Nat.reduceMul, Nat.reduceAdd, decide_true, decide_false, Bool.not_true, Bool.not_false, true_and, and_true, List.map_cons, List.map_nil, List.nil_append, List.cons_append, List.append_nil, Option.map_some, Option.bind_some, List.getElem?_cons_zero, List.getElem?_cons_succ, Bool.false_eq_true, not_true_eq_false, not_false_eq_true, List.contains_cons, List.contains_nil, Nat.reduceBEq, Bool.true_or, Bool.false_or, Bool.or_true, List.set_cons_zero, List.set_cons_succ, List.length_cons, List.length_nil, isLd, Bool.true_and, Bool.false_and, Bool.and_true, Bool.and_false]) (by simp (maxSteps := 300000) (disch := omega) only [gs, gs2, gs3, ↓reduceIte, Nat.reduceEqDiff, Nat.mul_one, Nat.add_zero, Nat.zero_add, Nat.zero_mul, Int.toNat_natCast, Int.reduceToNat, Nat.reduceMul, Nat.reduceAdd, decide_true, decide_false, Bool.not_true, Bool.not_false, true_and, and_true, List.map_cons, List.map_nil, List.nil_append, List.cons_append, List.append_nil, Option.map_some, Option.bind_some, List.getElem?_cons_zero, List.getElem?_cons_succ, Bool.false_eq_true, not_true_eq_false, not_false_eq_true, List.contains_cons, List.contains_nil, Nat.reduceBEq, Bool.true_or, Bool.false_or, Bool.or_true, List.set_cons_zero, List.set_cons_succ, List.length_cons, List.length_nil, isLd, Bool.true_and, Bool.false_and, Bool.and_true, Bool.and_false]) (by simp (maxSteps := 300000) (disch := omega) only [gs, gs2, gs3, ↓reduceIte, Nat.reduceEqDiff, Nat.mul_one, Nat.add_zero, Nat.zero_add, Nat.zero_mul, Int.toNat_natCast, Int.reduceToNat, Nat.reduceMul, Nat.reduceAdd, decide_true, decide_false, Bool.not_true, Bool.not_false, true_and, and_true, List.map_cons, List.map_nil, List.nil_append, List.cons_append, List.append_nil, Option.map_some, Option.bind_some, List.getElem?_cons_zero, List.getElem?_cons_succ, Bool.false_eq_true, not_true_eq_false, not_false_eq_true, List.contains_cons, List.contains_nil, Nat.reduceBEq, Bool.true_or, Bool.false_or, Bool.or_true, List.set_cons_zero, List.set_cons_succ, List.length_cons, List.length_nil, isLd, Bool.true_and, Bool.false_and, Bool.and_true, Bool.and_false]) (by simp (maxSteps := 300000) (disch := omega) only [gs, gs2, gs3, ↓reduceIte, Nat.reduceEqDiff, Nat.mul_one, Nat.add_zero, Nat.zero_add, Nat.zero_mul, Int.toNat_natCast, Int.reduceToNat, Nat.reduceMul, Nat.reduceAdd, decide_true, decide_false, Bool.not_true, Bool.not_false, true_and, and_true, List.map_cons, List.map_nil, List.nil_append, List.cons_append, List.append_nil, Option.map_some, Option.bind_some, List.getElem?_cons_zero, List.getElem?_cons_succ, Bool.false_eq_true, not_true_eq_false, not_false_eq_true, List.contains_cons, List.contains_nil, Nat.reduceBEq, Bool.true_or, Bool.false_or, Bool.or_true, List.set_cons_zero, List.set_cons_succ, List.length_cons, List.length_nil, isLd, Bool.true_and, Bool.false_and, Bool.and_true, Bool.and_false]) (by simp (maxSteps := 300000) (disch := omega) only [gs, gs2, gs3, ↓reduceIte, Nat.reduceEqDiff, Nat.mul_one, Nat.add_zero, Nat.zero_add, Nat.zero_mul, Int.toNat_natCast, Int.reduceToNat, Nat.reduceMul, Nat.reduceAdd, decide_true, decide_false, Bool.not_true, Bool.not_false, true_and, and_true, List.map_cons, List.map_nil, List.nil_append, List.cons_append, List.append_nil, Option.map_some, Option.bind_some, List.getElem?_cons_zero, List.getElem?_cons_succ, Bool.false_eq_true, not_true_eq_false, not_false_eq_true, List.contains_cons, List.contains_nil, Nat.reduceBEq, Bool.true_or, Bool.false_or, Bool.or_true, List.set_cons_zero, List.set_cons_succ, List.length_cons, List.length_nil, isLd, Bool.true_and, Bool.false_and, Bool.and_true, Bool.and_false]) (by simp (maxSteps := 300000) (disch := omega) only [gs, gs2, gs3, ↓reduceIte, Nat.reduceEqDiff, Nat.mul_one, Nat.add_zero, Nat.zero_add, Nat.zero_mul, Int.toNat_natCast, Int.reduceToNat, Nat.reduceMul, Nat.reduceAdd, decide_true, decide_false, Bool.not_true, Bool.not_false, true_and, and_true, List.map_cons, List.map_nil, List.nil_append, List.cons_append, List.append_nil, Option.map_some, Option.bind_some, List.getElem?_cons_zero, List.getElem?_cons_succ, Bool.false_eq_true, not_true_eq_false, not_false_eq_true, List.contains_cons, List.contains_nil, Nat.reduceBEq, Bool.true_or, Bool.false_or, Bool.or_true, List.set_cons_zero, List.set_cons_succ, List.length_cons, List.length_nil, isLd, Bool.true_and, Bool.false_and, Bool.and_true, Bool.and_false]) (by simp (maxSteps := 300000) (disch := omega) only [gs, gs2, gs3, ↓reduceIte, Nat.reduceEqDiff, Nat.mul_one, Nat.add_zero, Nat.zero_add, Nat.zero_mul, Int.toNat_natCast, Int.reduceToNat, Nat.reduceMul, Nat.reduceAdd, decide_true, decide_false, Bool.not_true, Bool.not_false, true_and, and_true, List.map_cons, List.map_nil, List.nil_append, List.cons_append, List.append_nil, Option.map_some, Option.bind_some, List.getElem?_cons_zero, List.getElem?_cons_succ, Bool.false_eq_true, not_true_eq_false, not_false_eq_true, List.contains_cons, List.contains_nil, Nat.reduceBEq, Bool.true_or, Bool.false_or, Bool.or_true, List.set_cons_zero, List.set_cons_succ, List.length_cons, List.length_nil, isLd, Bool.true_and, Bool.false_and, Bool.and_true, Bool.and_false]) (by simp (maxSteps := 300000) (disch := omega) only [gs, gs2, gs3, ↓reduceIte, Nat.reduceEqDiff, Nat.mul_one, Nat.add_zero, Nat.zero_add, Nat.zero_mul, Int.toNat_natCast, Int.reduceToNat, Nat.reduceMul, Nat.reduceAdd, decide_true, decide_false, Bool.not_true, Bool.not_false, true_and, and_true, List.map_cons, List.map_nil, List.nil_append, List.cons_append, List.append_nil, Option.map_some, Option.bind_some, List.getElem?_cons_zero, List.getElem?_cons_succ, Bool.false_eq_true, not_true_eq_false, not_false_eq_true, List.contains_cons, List.contains_nil, Nat.reduceBEq, Bool.true_or, Bool.false_or, Bool.or_true, List.set_cons_zero, List.set_cons_succ, List.length_cons, List.length_nil, isLd, Bool.true_and, Bool.false_and, Bool.and_true, Bool.and_false]) (by simp (maxSteps := 300000) (disch := omega) only [gs, gs2, gs3, ↓reduceIte, Nat.reduceEqDiff, Nat.mul_one, Nat.add_zero, Nat.zero_add, Nat.zero_mul, Int.toNat_natCast, Int.reduceToNat, Nat.reduceMul, Nat.reduceAdd, decide_true, decide_false, Bool.not_true, Bool.not_false, true_and, and_true, List.map_cons, List.map_nil, List.nil_append, List.cons_append, List.append_nil, Option.map_some, Option.bind_some, List.getElem?_cons_zero, List.getElem?_cons_succ, Bool.false_eq_true, not_true_eq_false, not_false_eq_true, List.contains_cons, List.contains_nil, Nat.reduceBEq, Bool.true_or, Bool.false_or, Bool.or_true, List.set_cons_zero, List.set_cons_succ, List.length_cons, List.length_nil, isLd, Bool.true_and, Bool.false_and, Bool.and_true, Bool.and_false]) (by simp (maxSteps := 300000) (disch := omega) only [gs, gs2, gs3, ↓reduceIte, Nat.reduceEqDiff, Nat.mul_one, Nat.add_zero, Nat.zero_add, Nat.zero_mul, Int.toNat_natCast, Int.reduceToNat, Nat.reduceMul, Nat.reduceAdd, decide_true, decide_false, Bool.not_true, Bool.not_false, true_and, and_true, List.map_cons, List.map_nil, List.nil_append, List.cons_append, List.append_nil, Option.map_some, Option.bind_some, List.getElem?_cons_zero, List.getElem?_cons_succ, Bool.false_eq_true, not_true_eq_false, not_false_eq_true, List.contains_cons, List.contains_nil, Nat.reduceBEq, Bool.true_or, Bool.false_or, Bool.or_true, List.set_cons_zero, List.set_cons_succ, List.length_cons, List.length_nil, isLd, Bool.true_and, Bool.false_and, Bool.and_true, Bool.and_false] <;> rfl) hA0 fun T G3 e1 e2 e3 e4 e5 e11 e12 hA => ?_
    have f1' := rd_sub hA.sub f1
    simp (maxSteps := 300000) (disch := omega) only [gs, gs2, gs3, ↓reduceIte, Nat.reduceEqDiff, Nat.mul_one, Nat.add_zero, Nat.zero_add, Nat.zero_mul, Int.toNat_natCast, Int.reduceToNat, Nat.reduceMul, Nat.reduceAdd, decide_true, decide_false, Bool.not_true, Bool.not_false, true_and, and_true, List.map_cons, List.map_nil, List.nil_append, List.cons_append, List.append_nil, Option.map_some, Option.bind_some, List.getElem?_cons_zero, List.getElem?_cons_succ, Bool.false_eq_true, not_true_eq_false, not_false_eq_true, List.contains_cons, List.contains_nil, Nat.reduceBEq, Bool.true_or, Bool.false_or, Bool.or_true, List.set_cons_zero, List.set_cons_succ, List.length_cons, List.length_nil, isLd, Bool.true_and, Bool.false_and, Bool.and_true, Bool.and_false, e1, e2, e3, e4, e5, e11, e12, f1']
    refine averaged_l1 (C := C) (e := e) (fixed := fixed) (lim := lim) (h.sub s1) (hf.sub s1) hx hn ho (by simp (maxSteps := 300000) (disch := omega) only [gs, gs2, gs3, ↓reduceIte, Nat.reduceEqDiff, Nat.mul_one, Nat.add_zero, Nat.zero_add, Nat.zero_mul, Int.toNat_natCast, Int.reduceToNat, Nat.reduceMul, Nat.reduceAdd, decide_true, decide_false, Bool.not_true, Bool.not_false, true_and, and_true, List.map_cons, List.map_nil, List.nil_append, List.cons_append, List.append_nil, Option.map_some, Option.bind_some, List.getElem?_cons_zero, List.getElem?_cons_succ, Bool.false_eq_true, not_true_eq_false, not_false_eq_true, List.contains_cons, List.contains_nil, Nat.reduceBEq, Bool.true_or, Bool.false_or, Bool.or_true, List.set_cons_zero, List.set_cons_succ, List.length_cons, List.length_nil, isLd, Bool.true_and, Bool.false_and, Bool.and_true, Bool.and_false, e1]) (by simp (maxSteps := 300000) (disch := omega) only [gs, gs2, gs3, ↓reduceIte, Nat.reduceEqDiff, Nat.mul_one, Nat.add_zero, Nat.zero_add, Nat.zero_mul, Int.toNat_natCast, Int.reduceToNat, Nat.reduceMul, Nat.reduceAdd, decide_true, decide_false, Bool.not_true, Bool.not_false, true_and, and_true, List.map_cons, List.map_nil, List.nil_append, List.cons_append, List.append_nil, Option.map_some, Option.bind_some, List.getElem?_cons_zero, List.getElem?_cons_succ, Bool.false_eq_true, not_true_eq_false, not_false_eq_true, List.contains_cons, List.contains_nil, Nat.reduceBEq, Bool.true_or, Bool.false_or, Bool.or_true, List.set_cons_zero, List.set_cons_succ, List.length_cons, List.length_nil, isLd, Bool.true_and, Bool.false_and, Bool.and_true, Bool.and_false, e2]) (by simp (maxSteps := 300000) (disch := omega) only [gs, gs2, gs3, ↓reduceIte, Nat.reduceEqDiff, Nat.mul_one, Nat.add_zero, Nat.zero_add, Nat.zero_mul, Int.toNat_natCast, Int.reduceToNat, Nat.reduceMul, Nat.reduceAdd, decide_true, decide_false, Bool.not_true, Bool.not_false, true_and, and_true, List.map_cons, List.map_nil, List.nil_append, List.cons_append, List.append_nil, Option.map_some, Option.bind_some, List.getElem?_cons_zero, List.getElem?_cons_succ, Bool.false_eq_true, not_true_eq_false, not_false_eq_true, List.contains_cons, List.contains_nil, Nat.reduceBEq, Bool.true_or, Bool.false_or, Bool.or_true, List.set_cons_zero, List.set_cons_succ, List.length_cons, List.length_nil, isLd, Bool.true_and, Bool.false_and, Bool.and_true, Bool.and_false, e3]) (by simp (maxSteps := 300000) (disch := omega) only [gs, gs2, gs3, ↓reduceIte, Nat.reduceEqDiff, Nat.mul_one, Nat.add_zero, Nat.zero_add, Nat.zero_mul, Int.toNat_natCast, Int.reduceToNat, Nat.reduceMul, Nat.reduceAdd, decide_true, decide_false, Bool.not_true, Bool.not_false, true_and, and_true, List.map_cons, List.map_nil, List.nil_append, List.cons_append, List.append_nil, Option.map_some, Option.bind_some, List.getElem?_cons_zero, List.getElem?_cons_succ, Bool.false_eq_true, not_true_eq_false, not_false_eq_true, List.contains_cons, List.contains_nil, Nat.reduceBEq, Bool.true_or, Bool.false_or, Bool.or_true, List.set_cons_zero, List.set_cons_succ, List.length_cons, List.length_nil, isLd, Bool.true_and, Bool.false_and, Bool.and_true, Bool.and_false, e4]) (by simp (maxSteps := 300000) (disch := omega) only [gs, gs2, gs3, ↓reduceIte, Nat.reduceEqDiff, Nat.mul_one, Nat.add_zero, Nat.zero_add, Nat.zero_mul, Int.toNat_natCast, Int.reduceToNat, Nat.reduceMul, Nat.reduceAdd, decide_true, decide_false, Bool.not_true, Bool.not_false, true_and, and_true, List.map_cons, List.map_nil, List.nil_append, List.cons_append, List.append_nil, Option.map_some, Option.bind_some, List.getElem?_cons_zero, List.getElem?_cons_succ, Bool.false_eq_true, not_true_eq_false, not_false_eq_true, List.contains_cons, List.contains_nil, Nat.reduceBEq, Bool.true_or, Bool.false_or, Bool.or_true, List.set_cons_zero, List.set_cons_succ, List.length_cons, List.length_nil, isLd, Bool.true_and, Bool.false_and, Bool.and_true, Bool.and_false, e11]) (by simp (maxSteps := 300000) (disch := omega) only [gs, gs2, gs3, ↓reduceIte, Nat.reduceEqDiff, Nat.mul_one, Nat.add_zero, Nat.zero_add, Nat.zero_mul, Int.toNat_natCast, Int.reduceToNat, Nat.reduceMul, Nat.reduceAdd, decide_true, decide_false, Bool.not_true, Bool.not_false, true_and, and_true, List.map_cons, List.map_nil, List.nil_append, List.cons_append, List.append_nil, Option.map_some, Option.bind_some, List.getElem?_cons_zero, List.getElem?_cons_succ, Bool.false_eq_true, not_true_eq_false, not_false_eq_true, List.contains_cons, List.contains_nil, Nat.reduceBEq, Bool.true_or, Bool.false_or, Bool.or_true, List.set_cons_zero, List.set_cons_succ, List.length_cons, List.length_nil, isLd, Bool.true_and, Bool.false_and, Bool.and_true, Bool.and_false, e12]) (by simp (maxSteps := 300000) (disch := omega) only [gs, gs2, gs3, ↓reduceIte, Nat.reduceEqDiff, Nat.mul_one, Nat.add_zero, Nat.zero_add, Nat.zero_mul, Int.toNat_natCast, Int.reduceToNat, Nat.reduceMul, Nat.reduceAdd, decide_true, decide_false, Bool.not_true, Bool.not_false, true_and, and_true, List.map_cons, List.map_nil, List.nil_append, List.cons_append, List.append_nil, Option.map_some, Option.bind_some, List.getElem?_cons_zero, List.getElem?_cons_succ, Bool.false_eq_true, not_true_eq_false, not_false_eq_true, List.contains_cons, List.contains_nil, Nat.reduceBEq, Bool.true_or, Bool.false_or, Bool.or_true, List.set_cons_zero, List.set_cons_succ, List.length_cons, List.length_nil, isLd, Bool.true_and, Bool.false_and, Bool.and_true, Bool.and_false]) (by simp (maxSteps := 300000) (disch := omega) only [gs, gs2, gs3, ↓reduceIte, Nat.reduceEqDiff, Nat.mul_one, Nat.add_zero, Nat.zero_add, Nat.zero_mul, Int.toNat_natCast, Int.reduceToNat, Nat.reduceMul, Nat.reduceAdd, decide_true, decide_false, Bool.not_true, Bool.not_false, true_and, and_true, List.map_cons, List.map_nil, List.nil_append, List.cons_append, List.append_nil, Option.map_some, Option.bind_some, List.getElem?_cons_zero, List.getElem?_cons_succ, Bool.false_eq_true, not_true_eq_false, not_false_eq_true, List.contains_cons, List.contains_nil, Nat.reduceBEq, Bool.true_or, Bool.false_or, Bool.or_true, List.set_cons_zero, List.set_cons_succ, List.length_cons, List.length_nil, isLd, Bool.true_and, Bool.false_and, Bool.and_true, Bool.and_false]) (by simp (maxSteps := 300000) (disch := omega) only [gs, gs2, gs3, ↓reduceIte, Nat.reduceEqDiff, Nat.mul_one, Nat.add_zero, Nat.zero_add, Nat.zero_mul, Int.toNat_natCast, Int.reduceToNat, Nat.reduceMul, Nat.reduceAdd, decide_true, decide_false, Bool.not_true, Bool.not_false, true_and, and_true, List.map_cons, List.map_nil, List.nil_append, List.cons_append, List.append_nil, Option.map_some, Option.bind_some, List.getElem?_cons_zero, List.getElem?_cons_succ, Bool.false_eq_true, not_true_eq_false, not_false_eq_true, List.contains_cons, List.contains_nil, Nat.reduceBEq, Bool.true_or, Bool.false_or, Bool.or_true, List.set_cons_zero, List.set_cons_succ, List.length_cons, List.length_nil, isLd, Bool.true_and, Bool.false_and, Bool.and_true, Bool.and_false] <;> rfl) hA fun T G4 e1 e4 e11 e12 hA => ?_
    simp (maxSteps := 300000) (disch := omega) only [gs, gs2, gs3, ↓reduceIte, Nat.reduceEqDiff, Nat.mul_one, Nat.add_zero, Nat.zero_add, Nat.zero_mul, Int.toNat_natCast, Int.reduceToNat, Nat.reduceMul, Nat.reduceAdd, decide_true, decide_false, Bool.not_true, Bool.not_false, true_and, and_true, List.map_cons, List.map_nil, List.nil_append, List.cons_append, List.append_nil, Option.map_some, Option.bind_some, List.getElem?_cons_zero, List.getElem?_cons_succ, Bool.false_eq_true, not_true_eq_false, not_false_eq_true, List.contains_cons, List.contains_nil, Nat.reduceBEq, Bool.true_or, Bool.false_or, Bool.or_true, List.set_cons_zero, List.set_cons_succ, List.length_cons, List.length_nil, isLd, Bool.true_and, Bool.false_and, Bool.and_true, Bool.and_false, e1, e4, e11, e12]
    refine slices_Clone_ok ((hf.sub s1).sub hA.sub) (by omega) fun G5 An cn hN => ?_
    simp (maxSteps := 300000) (disch := omega) only [gs, gs2, gs3, ↓reduceIte, Nat.reduceEqDiff, Nat.mul_one, Nat.add_zero, Nat.zero_add, Nat.zero_mul, Int.toNat_natCast, Int.reduceToNat, Nat.reduceMul, Nat.reduceAdd, decide_true, decide_false, Bool.not_true, Bool.not_false, true_and, and_true, List.map_cons, List.map_nil, List.nil_append, List.cons_append, List.append_nil, Option.map_some, Option.bind_some, List.getElem?_cons_zero, List.getElem?_cons_succ, Bool.false_eq_true, not_true_eq_false, not_false_eq_true, List.contains_cons, List.contains_nil, Nat.reduceBEq, Bool.true_or, Bool.false_or, Bool.or_true, List.set_cons_zero, List.set_cons_succ, List.length_cons, List.length_nil, isLd, Bool.true_and, Bool.false_and, Bool.and_true, Bool.and_false, e1, e4, e11, e12]
    refine averaged_l2 (lim := lim) (hg.sub s1) hl2 hx hn ho (by simp (maxSteps := 300000) (disch := omega) only [gs, gs2, gs3, ↓reduceIte, Nat.reduceEqDiff, Nat.mul_one, Nat.add_zero, Nat.zero_add, Nat.zero_mul, Int.toNat_natCast, Int.reduceToNat, Nat.reduceMul, Nat.reduceAdd, decide_true, decide_false, Bool.not_true, Bool.not_false, true_and, and_true, List.map_cons, List.map_nil, List.nil_append, List.cons_append, List.append_nil, Option.map_some, Option.bind_some, List.getElem?_cons_zero, List.getElem?_cons_succ, Bool.false_eq_true, not_true_eq_false, not_false_eq_true, List.contains_cons, List.contains_nil, Nat.reduceBEq, Bool.true_or, Bool.false_or, Bool.or_true, List.set_cons_zero, List.set_cons_succ, List.length_cons, List.length_nil, isLd, Bool.true_and, Bool.false_and, Bool.and_true, Bool.and_false, e4]) (by simp (maxSteps := 300000) (disch := omega) only [gs, gs2, gs3, ↓reduceIte, Nat.reduceEqDiff, Nat.mul_one, Nat.add_zero, Nat.zero_add, Nat.zero_mul, Int.toNat_natCast, Int.reduceToNat, Nat.reduceMul, Nat.reduceAdd, decide_true, decide_false, Bool.not_true, Bool.not_false, true_and, and_true, List.map_cons, List.map_nil, List.nil_append, List.cons_append, List.append_nil, Option.map_some, Option.bind_some, List.getElem?_cons_zero, List.getElem?_cons_succ, Bool.false_eq_true, not_true_eq_false, not_false_eq_true, List.contains_cons, List.contains_nil, Nat.reduceBEq, Bool.true_or, Bool.false_or, Bool.or_true, List.set_cons_zero, List.set_cons_succ, List.length_cons, List.length_nil, isLd, Bool.true_and, Bool.false_and, Bool.and_true, Bool.and_false, e11]) (by simp (maxSteps := 300000) (disch := omega) only [gs, gs2, gs3, ↓reduceIte, Nat.reduceEqDiff, Nat.mul_one, Nat.add_zero, Nat.zero_add, Nat.zero_mul, Int.toNat_natCast, Int.reduceToNat, Nat.reduceMul, Nat.reduceAdd, decide_true, decide_false, Bool.not_true, Bool.not_false, true_and, and_true, List.map_cons, List.map_nil, List.nil_append, List.cons_append, List.append_nil, Option.map_some, Option.bind_some, List.getElem?_cons_zero, List.getElem?_cons_succ, Bool.false_eq_true, not_true_eq_false, not_false_eq_true, List.contains_cons, List.contains_nil, Nat.reduceBEq, Bool.true_or, Bool.false_or, Bool.or_true, List.set_cons_zero, List.set_cons_succ, List.length_cons, List.length_nil, isLd, Bool.true_and, Bool.false_and, Bool.and_true, Bool.and_false, e12]) (by simp (maxSteps := 300000) (disch := omega) only [gs, gs2, gs3, ↓reduceIte, Nat.reduceEqDiff, Nat.mul_one, Nat.add_zero, Nat.zero_add, Nat.zero_mul, Int.toNat_natCast, Int.reduceToNat, Nat.reduceMul, Nat.reduceAdd, decide_true, decide_false, Bool.not_true, Bool.not_false, true_and, and_true, List.map_cons, List.map_nil, List.nil_append, List.cons_append, List.append_nil, Option.map_some, Option.bind_some, List.getElem?_cons_zero, List.getElem?_cons_succ, Bool.false_eq_true, not_true_eq_false, not_false_eq_true, List.contains_cons, List.contains_nil, Nat.reduceBEq, Bool.true_or, Bool.false_or, Bool.or_true, List.set_cons_zero, List.set_cons_succ, List.length_cons, List.length_nil, isLd, Bool.true_and, Bool.false_and, Bool.and_true, Bool.and_false]) (by simp (maxSteps := 300000) (disch := omega) only [gs, gs2, gs3, ↓reduceIte, Nat.reduceEqDiff, Nat.mul_one, Nat.add_zero, Nat.zero_add, Nat.zero_mul, Int.toNat_natCast, Int.reduceToNat, Nat.reduceMul, Nat.reduceAdd, decide_true, decide_false, Bool.not_true, Bool.not_false, true_and, and_true, List.map_cons, List.map_nil, List.nil_append, List.cons_append, List.append_nil, Option.map_some, Option.bind_some, List.getElem?_cons_zero, List.getElem?_cons_succ, Bool.false_eq_true, not_true_eq_false, not_false_eq_true, List.contains_cons, List.contains_nil, Nat.reduceBEq, Bool.true_or, Bool.false_or, Bool.or_true, List.set_cons_zero, List.set_cons_succ, List.length_cons, List.length_nil, isLd, Bool.true_and, Bool.false_and, Bool.and_true, Bool.and_false]) (by simp (maxSteps := 300000) (disch := omega) only [gs, gs2, gs3, ↓reduceIte, Nat.reduceEqDiff, Nat.mul_one, Nat.add_zero, Nat.zero_add, Nat.zero_mul, Int.toNat_natCast, Int.reduceToNat, Nat.reduceMul, Nat.reduceAdd, decide_true, decide_false, Bool.not_true, Bool.not_false, true_and, and_true, List.map_cons, List.map_nil, List.nil_append, List.cons_append, List.append_nil, Option.map_some, Option.bind_some, List.getElem?_cons_zero, List.getElem?_cons_succ, Bool.false_eq_true, not_true_eq_false, not_false_eq_true, List.contains_cons, List.contains_nil, Nat.reduceBEq, Bool.true_or, Bool.false_or, Bool.or_true, List.set_cons_zero, List.set_cons_succ, List.length_cons, List.length_nil, isLd, Bool.true_and, Bool.false_and, Bool.and_true, Bool.and_false] <;> rfl) hA hN fun T G6 e16 hN => ?_
    simp (maxSteps := 300000) (disch := omega) only [gs, gs2, gs3, ↓reduceIte, Nat.reduceEqDiff, Nat.mul_one, Nat.add_zero, Nat.zero_add, Nat.zero_mul, Int.toNat_natCast, Int.reduceToNat, Nat.reduceMul, Nat.reduceAdd, decide_true, decide_false, Bool.not_true, Bool.not_false, true_and, and_true, List.map_cons, List.map_nil, List.nil_append, List.cons_append, List.append_nil, Option.map_some, Option.bind_some, List.getElem?_cons_zero, List.getElem?_cons_succ, Bool.false_eq_true, not_true_eq_false, not_false_eq_true, List.contains_cons, List.contains_nil, Nat.reduceBEq, Bool.true_or, Bool.false_or, Bool.or_true, List.set_cons_zero, List.set_cons_succ, List.length_cons, List.length_nil, isLd, Bool.true_and, Bool.false_and, Bool.and_true, Bool.and_false, e16]
    obtain ⟨G'', s2, hN2⟩ := hN.low (s1.trans hA.sub)
    exact ⟨G'', s2, hk _ _ _ hN2⟩
  · refine ⟨xs.length, xs.length, by rw [hx1], by rw [hx1], Nat.le_refl _, by omega, by omega, fun bW hbbW => ?_⟩
    have f0' := rd_sub (Sub.put hbbW ⟨zc [.int .i64 0] xs.length, true⟩) f0
    simp (maxSteps := 300000) (disch := omega) only [gs, gs2, gs3, ↓reduceIte, Nat.reduceEqDiff, Nat.mul_one, Nat.add_zero, Nat.zero_add, Nat.zero_mul, Int.toNat_natCast, Int.reduceToNat, Nat.reduceMul, Nat.reduceAdd, decide_true, decide_false, Bool.not_true, Bool.not_false, true_and, and_true, List.map_cons, List.map_nil, List.nil_append, List.cons_append, List.append_nil, Option.map_some, Option.bind_some, List.getElem?_cons_zero, List.getElem?_cons_succ, Bool.false_eq_true, not_true_eq_false, not_false_eq_true, List.contains_cons, List.contains_nil, Nat.reduceBEq, Bool.true_or, Bool.false_or, Bool.or_true, List.set_cons_zero, List.set_cons_succ, List.length_cons, List.length_nil, isLd, Bool.true_and, Bool.false_and, Bool.and_true, Bool.and_false, f0']
    refine ⟨xs.length, xs.length, by rw [hx1], by rw [hx1], Nat.le_refl _, by omega, by omega, fun bS hbbS => ?_⟩
    have f0'' := rd_sub (Sub.put hbbS ⟨zc [.int .i64 0] xs.length, true⟩) f0'
    simp (maxSteps := 300000) (disch := omega) only [gs, gs2, gs3, ↓reduceIte, Nat.reduceEqDiff, Nat.mul_one, Nat.add_zero, Nat.zero_add, Nat.zero_mul, Int.toNat_natCast, Int.reduceToNat, Nat.reduceMul, Nat.reduceAdd, decide_true, decide_false, Bool.not_true, Bool.not_false, true_and, and_true, List.map_cons, List.map_nil, List.nil_append, List.cons_append, List.append_nil, Option.map_some, Option.bind_some, List.getElem?_cons_zero, List.getElem?_cons_succ, Bool.false_eq_true, not_true_eq_false, not_false_eq_true, List.contains_cons, List.contains_nil, Nat.reduceBEq, Bool.true_or, Bool.false_or, Bool.or_true, List.set_cons_zero, List.set_cons_succ, List.length_cons, List.length_nil, isLd, Bool.true_and, Bool.false_and, Bool.and_true, Bool.and_false, f0', f0'']
    have hA0 : AvG G1 (put (put G1 bW ⟨zc [.int .i64 0] xs.length, true⟩) bS ⟨zc [.int .i64 0] xs.length, true⟩) bS bW xs.length [] [] (fun _ => 0) (fun _ => 0) := by
      have hz : zc [.int .i64 0] xs.length = fcells xs.length (fun _ => 0) ++ [] := by rw [zc_one, rep_range, List.append_nil]; rfl
      have q : bS ≠ bW ∧ G1 bS = none := put_none.1 hbbS
      rw [hz]
      exact ⟨((Sub.refl G1).skip hbbW).skip q.2, q.2, hbbW, q.1, put_same _ _ _, by rw [put_ne _ _ q.1.symm, put_same]⟩
    revert hA0
    generalize put (put G1 bW ⟨zc [.int .i64 0] xs.length, true⟩) bS ⟨zc [.int .i64 0] xs.length, true⟩ = G2
    intro hA0
    refine averaged_l0 (lim := lim) (fixed := fixed) (C := C) (e := e) (b5 := b5) (hf.sub s1) hx hn ho (by simp (maxSteps := 300000) (disch := omega) only [gs, gs2, gs3, ↓reduceIte, Nat.reduceEqDiff, Nat.mul_one, Nat.add_zero, Nat.zero_add, Nat.zero_mul, Int.toNat_natCast, Int.reduceToNat, Nat.reduceMul, Nat.reduceAdd, decide_true, decide_false, Bool.not_true, Bool.not_false, true_and, and_true, List.map_cons, List.map_nil, List.nil_append, List.cons_append, List.append_nil, Option.map_some, Option.bind_some, List.getElem?_cons_zero, List.getElem?_cons_succ, Bool.false_eq_true, not_true_eq_false, not_false_eq_true, List.contains_cons, List.contains_nil, Nat.reduceBEq, Bool.true_or, Bool.false_or, Bool.or_true, List.set_cons_zero, List.set_cons_succ, List.length_cons, List.length_nil, isLd, Bool.true_and, Bool.false_and, Bool.and_true, Bool.and_false]) (by simp (maxSteps := 300000) (disch := omega) only [gs, gs2, gs3, ↓reduceIte, Nat.reduceEqDiff, Nat.mul_one, Nat.add_zero, Nat.zero_add, Nat.zero_mul, Int.toNat_natCast, Int.reduceToNat, Nat.reduceMul, Nat.reduceAdd, decide_true, decide_false, Bool.not_true, Bool.not_false, true_and, and_true, List.map_cons, List.map_nil, List.nil_append, List.cons_append, List.append_nil, Option.map_some, Option.bind_some, List.getElem?_cons_zero, List.getElem?_cons_succ, Bool.false_eq_true, not_true_eq_false, not_false_eq_true, List.contains_cons, List.contains_nil, Nat.reduceBEq, Bool.true_or, Bool.false_or, Bool.or_true, List.set_cons_zero, List.set_cons_succ, List.length_cons, List.length_nil, isLd, Bool.true_and, Bool.false_and, Bool.and_true, Bool.and_false]) (by simp (maxSteps := 300000) (disch := omega) only [gs, gs2, gs3, ↓reduceIte, Nat.reduceEqDiff, Nat.mul_one, Nat.add_zero, Nat.zero_add, Nat.zero_mul, Int.toNat_natCast, Int.reduceToNat, Nat.reduceMul, Nat.reduceAdd, decide_true, decide_false, Bool.not_true, Bool.not_false, true_and, and_true, List.map_cons, List.map_nil, List.nil_append, List.cons_append, List.append_nil, Option.map_some, Option.bind_some, List.getElem?_cons_zero, List.getElem?_cons_succ, Bool.false_eq_true, not_true_eq_false, not_false_eq_true, List.contains_cons, List.contains_nil, Nat.reduceBEq, Bool.true_or, Bool.false_or, Bool.or_true, List.set_cons_zero, List.set_cons_succ, List.length_cons, List.length_nil, isLd, Bool.true_and, Bool.false_and, Bool.and_true, Bool.and_false]) (by simp (maxSteps := 300000) (disch := omega) only [gs, gs2, gs3, ↓reduceIte, Nat.reduceEqDiff, Nat.mul_one, Nat.add_zero, Nat.zero_add, Nat.zero_mul, Int.toNat_natCast, Int.reduceToNat, Nat.reduceMul, Nat.reduceAdd, decide_true, decide_false, Bool.not_true, Bool.not_false, true_and, and_true, List.map_cons, List.map_nil, List.nil_append, List.cons_append, List.append_nil, Option.map_some, Option.bind_some, List.getElem?_cons_zero, List.getElem?_cons_succ, Bool.false_eq_true, not_true_eq_false, not_false_eq_true, List.contains_cons, List.contains_nil, Nat.reduceBEq, Bool.true_or, Bool.false_or, Bool.or_true, List.set_cons_zero, List.set_cons_succ, List.length_cons, List.length_nil, isLd, Bool.true_and, Bool.false_and, Bool.and_true, Bool.and_false]) (by simp (maxSteps := 300000) (disch := omega) only [gs, gs2, gs3, ↓reduceIte, Nat.reduceEqDiff, Nat.mul_one, Nat.add_zero, Nat.zero_add, Nat.zero_mul, Int.toNat_natCast, Int.reduceToNat, Nat.reduceMul, Nat.reduceAdd, decide_true, decide_false, Bool.not_true, Bool.not_false, true_and, and_true, List.map_cons, List.map_nil, List.nil_append, List.cons_append, List.append_nil, Option.map_some, Option.bind_some, List.getElem?_cons_zero, List.getElem?_cons_succ, Bool.false_eq_true, not_true_eq_false, not_false_eq_true, List.contains_cons, List.contains_nil, Nat.reduceBEq, Bool.true_or, Bool.false_or, Bool.or_true, List.set_cons_zero, List.set_cons_succ, List.length_cons, List.length_nil, isLd, Bool.true_and, Bool.false_and, Bool.and_true, Bool.and_false]) (by simp (maxSteps := 300000) (disch := omega) only [gs, gs2, gs3, ↓reduceIte, Nat.reduceEqDiff, Nat.mul_one, Nat.add_zero, Nat.zero_add, Nat.zero_mul, Int.toNat_natCast, Int.reduceToNat, Nat.reduceMul, Nat.reduceAdd, decide_true, decide_false, Bool.not_true, Bool.not_false, true_and, and_true, List.map_cons, List.map_nil, List.nil_append, List.cons_append, List.append_nil, Option.map_some, Option.bind_some, List.getElem?_cons_zero, List.getElem?_cons_succ, Bool.false_eq_true, not_true_eq_false, not_false_eq_true, List.contains_cons, List.contains_nil, Nat.reduceBEq, Bool.true_or, Bool.false_or, Bool.or_true, List.set_cons_zero, List.set_cons_succ, List.length_cons, List.length_nil, isLd, Bool.true_and, Bool.false_and, Bool.and_true, Bool.and_false]) (by simp (maxSteps := 300000) (disch := omega) only [gs, gs2, gs3, ↓reduceIte, Nat.reduceEqDiff, Nat.mul_one, Nat.add_zero, Nat.zero_add, Nat.zero_mul, Int.toNat_natCast, Int.reduceToNat, Nat.reduceMul, Nat.reduceAdd, decide_true, decide_false, Bool.not_true, Bool.not_false, true_and, and_true, List.map_cons, List.map_nil, List.nil_append, List.cons_append, List.append_nil, Option.map_some, Option.bind_some, List.getElem?_cons_zero, List.getElem?_cons_succ, Bool.false_eq_true, not_true_eq_false, not_false_eq_true, List.contains_cons, List.contains_nil, Nat.reduceBEq, Bool.true_or, Bool.false_or, Bool.or_true, List.set_cons_zero, List.set_cons_succ, List.length_cons, List.length_nil, isLd, Bool.true_and, Bool.false_and, Bool.and_true, Bool.and_false]) (by simp (maxSteps := 300000) (disch := omega) only [gs, gs2, gs3, ↓reduceIte, Nat.reduceEqDiff, Nat.mul_one, Nat.add_zero, Nat.zero_add, Nat.zero_mul, Int.toNat_natCast, Int.reduceToNat, Nat.reduceMul, Nat.reduceAdd, decide_true, decide_false, Bool.not_true, Bool.not_false, true_and, and_true, List.map_cons, List.map_nil, List.nil_append, List.cons_append, List.append_nil, Option.map_some, Option.bind_some, List.getElem?_cons_zero, List.getElem?_cons_succ, Bool.false_eq_true, not_true_eq_false, not_false_eq_true, List.contains_cons, List.contains_nil, Nat.reduceBEq, Bool.true_or, Bool.false_or, Bool.or_true, List.set_cons_zero, List.set_cons_succ, List.length_cons, List.length_nil, isLd, Bool.true_and, Bool.false_and, Bool.and_true, Bool.and_false]) (by simp (maxSteps := 300000) (disch := omega) only [gs, gs2, gs3, ↓reduceIte, Nat.reduceEqDiff, Nat.mul_one, Nat.add_zero, Nat.zero_add, Nat.zero_mul, Int.toNat_natCast, Int.reduceToNat, Nat.reduceMul, Nat.reduceAdd, decide_true, decide_false, Bool.not_true, Bool.not_false, true_and, and_true, List.map_cons, List.map_nil, List.nil_append, List.cons_append, List.append_nil, Option.map_some, Option.bind_some, List.getElem?_cons_zero, List.getElem?_cons_succ, Bool.false_eq_true, not_true_eq_false, not_false_eq_true, List.contains_cons, List.contains_nil, Nat.reduceBEq, Bool.true_or, Bool.false_or, Bool.or_true, List.set_cons_zero, List.set_cons_succ, List.length_cons, List.length_nil, isLd, Bool.true_and, Bool.false_and, Bool.and_true, Bool.and_false]) (by simp (maxSteps := 300000) (disch := omega) only [gs, gs2, gs3, ↓reduceIte, Nat.reduceEqDiff, Nat.mul_one, Nat.add_zero, Nat.zero_add, Nat.zero_mul, Int.toNat_natCast, Int.reduceToNat, Nat.reduceMul, Nat.reduceAdd, decide_true, decide_false, Bool.not_true, Bool.not_false, true_and, and_true, List.map_cons, List.map_nil, List.nil_append, List.cons_append, List.append_nil, Option.map_some, Option.bind_some, List.getElem?_cons_zero, List.getElem?_cons_succ, Bool.false_eq_true, not_true_eq_false, not_false_eq_true, List.contains_cons, List.contains_nil, Nat.reduceBEq, Bool.true_or, Bool.false_or, Bool.or_true, List.set_cons_zero, List.set_cons_succ, List.length_cons, List.length_nil, isLd, Bool.true_and, Bool.false_and, Bool.and_true, Bool.and_false] <;> rfl) hA0 fun T G3 e1 e2 e3 e4 e5 e11 e12 hA => ?_
    have f1' := rd_sub hA.sub f1
    simp (maxSteps := 300000) (disch := omega) only [gs, gs2, gs3, ↓reduceIte, Nat.reduceEqDiff, Nat.mul_one, Nat.add_zero, Nat.zero_add, Nat.zero_mul, Int.toNat_natCast, Int.reduceToNat, Nat.reduceMul, Nat.reduceAdd, decide_true, decide_false, Bool.not_true, Bool.not_false, true_and, and_true, List.map_cons, List.map_nil, List.nil_append, List.cons_append, List.append_nil, Option.map_some, Option.bind_some, List.getElem?_cons_zero, List.getElem?_cons_succ, Bool.false_eq_true, not_true_eq_false, not_false_eq_true, List.contains_cons, List.contains_nil, Nat.reduceBEq, Bool.true_or, Bool.false_or, Bool.or_true, List.set_cons_zero, List.set_cons_succ, List.length_cons, List.length_nil, isLd, Bool.true_and, Bool.false_and, Bool.and_true, Bool.and_false, e1, e2, e3, e4, e5, e11, e12, f1']
    refine averaged_l1 (C := C) (e := e) (fixed := fixed) (lim := lim) (h.sub s1) (hf.sub s1) hx hn ho (by simp (maxSteps := 300000) (disch := omega) only [gs, gs2, gs3, ↓reduceIte, Nat.reduceEqDiff, Nat.mul_one, Nat.add_zero, Nat.zero_add, Nat.zero_mul, Int.toNat_natCast, Int.reduceToNat, Nat.reduceMul, Nat.reduceAdd, decide_true, decide_false, Bool.not_true, Bool.not_false, true_and, and_true, List.map_cons, List.map_nil, List.nil_append, List.cons_append, List.append_nil, Option.map_some, Option.bind_some, List.getElem?_cons_zero, List.getElem?_cons_succ, Bool.false_eq_true, not_true_eq_false, not_false_eq_true, List.contains_cons, List.contains_nil, Nat.reduceBEq, Bool.true_or, Bool.false_or, Bool.or_true, List.set_cons_zero, List.set_cons_succ, List.length_cons, List.length_nil, isLd, Bool.true_and, Bool.false_and, Bool.and_true, Bool.and_false, e1]) (by simp (maxSteps := 300000) (disch := omega) only [gs, gs2, gs3, ↓reduceIte, Nat.reduceEqDiff, Nat.mul_one, Nat.add_zero, Nat.zero_add, Nat.zero_mul, Int.toNat_natCast, Int.reduceToNat, Nat.reduceMul, Nat.reduceAdd, decide_true, decide_false, Bool.not_true, Bool.not_false, true_and, and_true, List.map_cons, List.map_nil, List.nil_append, List.cons_append, List.append_nil, Option.map_some, Option.bind_some, List.getElem?_cons_zero, List.getElem?_cons_succ, Bool.false_eq_true, not_true_eq_false, not_false_eq_true, List.contains_cons, List.contains_nil, Nat.reduceBEq, Bool.true_or, Bool.false_or, Bool.or_true, List.set_cons_zero, List.set_cons_succ, List.length_cons, List.length_nil, isLd, Bool.true_and, Bool.false_and, Bool.and_true, Bool.and_false, e2]) (by simp (maxSteps := 300000) (disch := omega) only [gs, gs2, gs3, ↓reduceIte, Nat.reduceEqDiff, Nat.mul_one, Nat.add_zero, Nat.zero_add, Nat.zero_mul, Int.toNat_natCast, Int.reduceToNat, Nat.reduceMul, Nat.reduceAdd, decide_true, decide_false, Bool.not_true, Bool.not_false, true_and, and_true, List.map_cons, List.map_nil, List.nil_append, List.cons_append, List.append_nil, Option.map_some, Option.bind_some, List.getElem?_cons_zero, List.getElem?_cons_succ, Bool.false_eq_true, not_true_eq_false, not_false_eq_true, List.contains_cons, List.contains_nil, Nat.reduceBEq, Bool.true_or, Bool.false_or, Bool.or_true, List.set_cons_zero, List.set_cons_succ, List.length_cons, List.length_nil, isLd, Bool.true_and, Bool.false_and, Bool.and_true, Bool.and_false, e3]) (by simp (maxSteps := 300000) (disch := omega) only [gs, gs2, gs3, ↓reduceIte, Nat.reduceEqDiff, Nat.mul_one, Nat.add_zero, Nat.zero_add, Nat.zero_mul, Int.toNat_natCast, Int.reduceToNat, Nat.reduceMul, Nat.reduceAdd, decide_true, decide_false, Bool.not_true, Bool.not_false, true_and, and_true, List.map_cons, List.map_nil, List.nil_append, List.cons_append, List.append_nil, Option.map_some, Option.bind_some, List.getElem?_cons_zero, List.getElem?_cons_succ, Bool.false_eq_true, not_true_eq_false, not_false_eq_true, List.contains_cons, List.contains_nil, Nat.reduceBEq, Bool.true_or, Bool.false_or, Bool.or_true, List.set_cons_zero, List.set_cons_succ, List.length_cons, List.length_nil, isLd, Bool.true_and, Bool.false_and, Bool.and_true, Bool.and_false, e4]) (by simp (maxSteps := 300000) (disch := omega) only [gs, gs2, gs3, ↓reduceIte, Nat.reduceEqDiff, Nat.mul_one, Nat.add_zero, Nat.zero_add, Nat.zero_mul, Int.toNat_natCast, Int.reduceToNat, Nat.reduceMul, Nat.reduceAdd, decide_true, decide_false, Bool.not_true, Bool.not_false, true_and, and_true, List.map_cons, List.map_nil, List.nil_append, List.cons_append, List.append_nil, Option.map_some, Option.bind_some, List.getElem?_cons_zero, List.getElem?_cons_succ, Bool.false_eq_true, not_true_eq_false, not_false_eq_true, List.contains_cons, List.contains_nil, Nat.reduceBEq, Bool.true_or, Bool.false_or, Bool.or_true, List.set_cons_zero, List.set_cons_succ, List.length_cons, List.length_nil, isLd, Bool.true_and, Bool.false_and, Bool.and_true, Bool.and_false, e11]) (by simp (maxSteps := 300000) (disch := omega) only [gs, gs2, gs3, ↓reduceIte, Nat.reduceEqDiff, Nat.mul_one, Nat.add_zero, Nat.zero_add, Nat.zero_mul, Int.toNat_natCast, Int.reduceToNat, Nat.reduceMul, Nat.reduceAdd, decide_true, decide_false, Bool.not_true, Bool.not_false, true_and, and_true, List.map_cons, List.map_nil, List.nil_append, List.cons_append, List.append_nil, Option.map_some, Option.bind_some, List.getElem?_cons_zero, List.getElem?_cons_succ, Bool.false_eq_true, not_true_eq_false, not_false_eq_true, List.contains_cons, List.contains_nil, Nat.reduceBEq, Bool.true_or, Bool.false_or, Bool.or_true, List.set_cons_zero, List.set_cons_succ, List.length_cons, List.length_nil, isLd, Bool.true_and, Bool.false_and, Bool.and_true, Bool.and_false, e12]) (by simp (maxSteps := 300000) (disch := omega) only [gs, gs2, gs3, ↓reduceIte, Nat.reduceEqDiff, Nat.mul_one, Nat.add_zero, Nat.zero_add, Nat.zero_mul, Int.toNat_natCast, Int.reduceToNat, Nat.reduceMul, Nat.reduceAdd, decide_true, decide_false, Bool.not_true, Bool.not_false, true_and, and_true, List.map_cons, List.map_nil, List.nil_append, List.cons_append, List.append_nil, Option.map_some, Option.bind_some, List.getElem?_cons_zero, List.getElem?_cons_succ, Bool.false_eq_true, not_true_eq_false, not_false_eq_true, List.contains_cons, List.contains_nil, Nat.reduceBEq, Bool.true_or, Bool.false_or, Bool.or_true, List.set_cons_zero, List.set_cons_succ, List.length_cons, List.length_nil, isLd, Bool.true_and, Bool.false_and, Bool.and_true, Bool.and_false]) (by simp (maxSteps := 300000) (disch := omega) only [gs, gs2, gs3, ↓reduceIte, Nat.reduceEqDiff, Nat.mul_one, Nat.add_zero, Nat.zero_add, Nat.zero_mul, Int.toNat_natCast, Int.reduceToNat, Nat.reduceMul, Nat.reduceAdd, decide_true, decide_false, Bool.not_true, Bool.not_false, true_and, and_true, List.map_cons, List.map_nil, List.nil_append, List.cons_append, List.append_nil, Option.map_some, Option.bind_some, List.getElem?_cons_zero, List.getElem?_cons_succ, Bool.false_eq_true, not_true_eq_false, not_false_eq_true, List.contains_cons, List.contains_nil, Nat.reduceBEq, Bool.true_or, Bool.false_or, Bool.or_true, List.set_cons_zero, List.set_cons_succ, List.length_cons, List.length_nil, isLd, Bool.true_and, Bool.false_and, Bool.and_true, Bool.and_false]) (by simp (maxSteps := 300000) (disch := omega) only [gs, gs2, gs3, ↓reduceIte, Nat.reduceEqDiff, Nat.mul_one, Nat.add_zero, Nat.zero_add, Nat.zero_mul, Int.toNat_natCast, Int.reduceToNat, Nat.reduceMul, Nat.reduceAdd, decide_true, decide_false, Bool.not_true, Bool.not_false, true_and, and_true, List.map_cons, List.map_nil, List.nil_append, List.cons_append, List.append_nil, Option.map_some, Option.bind_some, List.getElem?_cons_zero, List.getElem?_cons_succ, Bool.false_eq_true, not_true_eq_false, not_false_eq_true, List.contains_cons, List.contains_nil, Nat.reduceBEq, Bool.true_or, Bool.false_or, Bool.or_true, List.set_cons_zero, List.set_cons_succ, List.length_cons, List.length_nil, isLd, Bool.true_and, Bool.false_and, Bool.and_true, Bool.and_false] <;> rfl) hA fun T G4 e1 e4 e11 e12 hA => ?_
    simp (maxSteps := 300000) (disch := omega) only [gs, gs2, gs3, ↓reduceIte, Nat.reduceEqDiff, Nat.mul_one, Nat.add_zero, Nat.zero_add, Nat.zero_mul, Int.toNat_natCast, Int.reduceToNat, Nat.reduceMul, Nat.reduceAdd, decide_true, decide_false, Bool.not_true, Bool.not_false, true_and, and_true, List.map_cons, List.map_nil, List.nil_append, List.cons_append, List.append_nil, Option.map_some, Option.bind_some, List.getElem?_cons_zero, List.getElem?_cons_succ, Bool.false_eq_true, not_true_eq_false, not_false_eq_true, List.contains_cons, List.contains_nil, Nat.reduceBEq, Bool.true_or, Bool.false_or, Bool.or_true, List.set_cons_zero, List.set_cons_succ, List.length_cons, List.length_nil, isLd, Bool.true_and, Bool.false_and, Bool.and_true, Bool.and_false, e1, e4, e11, e12]
    refine slices_Clone_ok ((hf.sub s1).sub hA.sub) (by omega) fun G5 An cn hN => ?_
    simp (maxSteps := 300000) (disch := omega) only [gs, gs2, gs3, ↓reduceIte, Nat.reduceEqDiff, Nat.mul_one, Nat.add_zero, Nat.zero_add, Nat.zero_mul, Int.toNat_natCast, Int.reduceToNat, Nat.reduceMul, Nat.reduceAdd, decide_true, decide_false, Bool.not_true, Bool.not_false, true_and, and_true, List.map_cons, List.map_nil, List.nil_append, List.cons_append, List.append_nil, Option.map_some, Option.bind_some, List.getElem?_cons_zero, List.getElem?_cons_succ, Bool.false_eq_true, not_true_eq_false, not_false_eq_true, List.contains_cons, List.contains_nil, Nat.reduceBEq, Bool.true_or, Bool.false_or, Bool.or_true, List.set_cons_zero, List.set_cons_succ, List.length_cons, List.length_nil, isLd, Bool.true_and, Bool.false_and, Bool.and_true, Bool.and_false, e1, e4, e11, e12]
    refine averaged_l2 (lim := lim) (hg.sub s1) hl2 hx hn ho (by simp (maxSteps := 300000) (disch := omega) only [gs, gs2, gs3, ↓reduceIte, Nat.reduceEqDiff, Nat.mul_one, Nat.add_zero, Nat.zero_add, Nat.zero_mul, Int.toNat_natCast, Int.reduceToNat, Nat.reduceMul, Nat.reduceAdd, decide_true, decide_false, Bool.not_true, Bool.not_false, true_and, and_true, List.map_cons, List.map_nil, List.nil_append, List.cons_append, List.append_nil, Option.map_some, Option.bind_some, List.getElem?_cons_zero, List.getElem?_cons_succ, Bool.false_eq_true, not_true_eq_false, not_false_eq_true, List.contains_cons, List.contains_nil, Nat.reduceBEq, Bool.true_or, Bool.false_or, Bool.or_true, List.set_cons_zero, List.set_cons_succ, List.length_cons, List.length_nil, isLd, Bool.true_and, Bool.false_and, Bool.and_true, Bool.and_false, e4]) (by simp (maxSteps := 300000) (disch := omega) only [gs, gs2, gs3, ↓reduceIte, Nat.reduceEqDiff, Nat.mul_one, Nat.add_zero, Nat.zero_add, Nat.zero_mul, Int.toNat_natCast, Int.reduceToNat, Nat.reduceMul, Nat.reduceAdd, decide_true, decide_false, Bool.not_true, Bool.not_false, true_and, and_true, List.map_cons, List.map_nil, List.nil_append, List.cons_append, List.append_nil, Option.map_some, Option.bind_some, List.getElem?_cons_zero, List.getElem?_cons_succ, Bool.false_eq_true, not_true_eq_false, not_false_eq_true, List.contains_cons, List.contains_nil, Nat.reduceBEq, Bool.true_or, Bool.false_or, Bool.or_true, List.set_cons_zero, List.set_cons_succ, List.length_cons, List.length_nil, isLd, Bool.true_and, Bool.false_and, Bool.and_true, Bool.and_false, e11]) (by simp (maxSteps := 300000) (disch := omega) only [gs, gs2, gs3, ↓reduceIte, Nat.reduceEqDiff, Nat.mul_one, Nat.add_zero, Nat.zero_add, Nat.zero_mul, Int.toNat_natCast, Int.reduceToNat, Nat.reduceMul, Nat.reduceAdd, decide_true, decide_false, Bool.not_true, Bool.not_false, true_and, and_true, List.map_cons, List.map_nil, List.nil_append, List.cons_append, List.append_nil, Option.map_some, Option.bind_some, List.getElem?_cons_zero, List.getElem?_cons_succ, Bool.false_eq_true, not_true_eq_false, not_false_eq_true, List.contains_cons, List.contains_nil, Nat.reduceBEq, Bool.true_or, Bool.false_or, Bool.or_true, List.set_cons_zero, List.set_cons_succ, List.length_cons, List.length_nil, isLd, Bool.true_and, Bool.false_and, Bool.and_true, Bool.and_false, e12]) (by simp (maxSteps := 300000) (disch := omega) only [gs, gs2, gs3, ↓reduceIte, Nat.reduceEqDiff, Nat.mul_one, Nat.add_zero, Nat.zero_add, Nat.zero_mul, Int.toNat_natCast, Int.reduceToNat, Nat.reduceMul, Nat.reduceAdd, decide_true, decide_false, Bool.not_true, Bool.not_false, true_and, and_true, List.map_cons, List.map_nil, List.nil_append, List.cons_append, List.append_nil, Option.map_some, Option.bind_some, List.getElem?_cons_zero, List.getElem?_cons_succ, Bool.false_eq_true, not_true_eq_false, not_false_eq_true, List.contains_cons, List.contains_nil, Nat.reduceBEq, Bool.true_or, Bool.false_or, Bool.or_true, List.set_cons_zero, List.set_cons_succ, List.length_cons, List.length_nil, isLd, Bool.true_and, Bool.false_and, Bool.and_true, Bool.and_false]) (by simp (maxSteps := 300000) (disch := omega) only [gs, gs2, gs3, ↓reduceIte, Nat.reduceEqDiff, Nat.mul_one, Nat.add_zero, Nat.zero_add, Nat.zero_mul, Int.toNat_natCast, Int.reduceToNat, Nat.reduceMul, Nat.reduceAdd, decide_true, decide_false, Bool.not_true, Bool.not_false, true_and, and_true, List.map_cons, List.map_nil, List.nil_append, List.cons_append, List.append_nil, Option.map_some, Option.bind_some, List.getElem?_cons_zero, List.getElem?_cons_succ, Bool.false_eq_true, not_true_eq_false, not_false_eq_true, List.contains_cons, List.contains_nil, Nat.reduceBEq, Bool.true_or, Bool.false_or, Bool.or_true, List.set_cons_zero, List.set_cons_succ, List.length_cons, List.length_nil, isLd, Bool.true_and, Bool.false_and, Bool.and_true, Bool.and_false]) (by simp (maxSteps := 300000) (disch := omega) only [gs, gs2, gs3, ↓reduceIte, Nat.reduceEqDiff, Nat.mul_one, Nat.add_zero, Nat.zero_add, Nat.zero_mul, Int.toNat_natCast, Int.reduceToNat, Nat.reduceMul, Nat.reduceAdd, decide_true, decide_false, Bool.not_true, Bool.not_false, true_and, and_true, List.map_cons, List.map_nil, List.nil_append, List.cons_append, List.append_nil, Option.map_some, Option.bind_some, List.getElem?_cons_zero, List.getElem?_cons_succ, Bool.false_eq_true, not_true_eq_false, not_false_eq_true, List.contains_cons, List.contains_nil, Nat.reduceBEq, Bool.true_or, Bool.false_or, Bool.or_true, List.set_cons_zero, List.set_cons_succ, List.length_cons, List.length_nil, isLd, Bool.true_and, Bool.false_and, Bool.and_true, Bool.and_false] <;> rfl) hA hN fun T G6 e16 hN => ?_
    simp (maxSteps := 300000) (disch := omega) only [gs, gs2, gs3, ↓reduceIte, Nat.reduceEqDiff, Nat.mul_one, Nat.add_zero, Nat.zero_add, Nat.zero_mul, Int.toNat_natCast, Int.reduceToNat, Nat.reduceMul, Nat.reduceAdd, decide_true, decide_false, Bool.not_true, Bool.not_false, true_and, and_true, List.map_cons, List.map_nil, List.nil_append, List.cons_append, List.append_nil, Option.map_some, Option.bind_some, List.getElem?_cons_zero, List.getElem?_cons_succ, Bool.false_eq_true, not_true_eq_false, not_false_eq_true, List.contains_cons, List.contains_nil, Nat.reduceBEq, Bool.true_or, Bool.false_or, Bool.or_true, List.set_cons_zero, List.set_cons_succ, List.length_cons, List.length_nil, isLd, Bool.true_and, Bool.false_and, Bool.and_true, Bool.and_false, e16]
    obtain ⟨G'', s2, hN2⟩ := hN.low (s1.trans hA.sub)
    exact ⟨G'', s2, hk _ _ _ hN2⟩
theorem slices_Equal_int64_ok {G : GH} {A B : Option Addr} {c d : Nat} {xs ys : List Int} (h : IntS G A c xs) (h' : IntS G B d ys) (hl : xs.length < 2 ^ 40) {K : Value → GH → Prop}
    (hk : K (.bool (decide (xs = ys))) G) : GC Try.prog 205 [.slice A xs.length c, .slice B ys.length d] G K := by
  refine c_slices_Equal_int64_int64_i (by simp) ?_
  have hsn := h.sn
  have hrd := h.rd
  have hsn' := h'.sn
  have hrd' := h'.rd
  simp (maxSteps := 300000) (disch := omega) only [gs, gs2, gs3, ↓reduceIte, Nat.reduceEqDiff, Nat.mul_one, Nat.add_zero, Nat.zero_add, Nat.zero_mul, Int.toNat_natCast, Int.reduceToNat, Nat.reduceMul, Nat.reduceAdd, decide_true, decide_false, Bool.not_true, Bool.not_false, true_and, and_true, List.map_cons, List.map_nil, List.nil_append, List.cons_append, List.append_nil, Option.map_some, Option.bind_some, List.getElem?_cons_zero, List.getElem?_cons_succ, Bool.false_eq_true, not_true_eq_false, not_false_eq_true, List.contains_cons, List.contains_nil, Nat.reduceBEq, Bool.true_or, Bool.false_or, Bool.or_true, List.set_cons_zero, List.set_cons_succ, List.length_cons, List.length_nil, isLd, Bool.true_and, Bool.false_and, Bool.and_true, Bool.and_false]
  by_cases hne : xs.length = ys.length
  · simp (maxSteps := 300000) (disch := omega) only [gs, gs2, gs3, ↓reduceIte, Nat.reduceEqDiff, Nat.mul_one, Nat.add_zero, Nat.zero_add, Nat.zero_mul, Int.toNat_natCast, Int.reduceToNat, Nat.reduceMul, Nat.reduceAdd, decide_true, decide_false, Bool.not_true, Bool.not_false, true_and, and_true, List.map_cons, List.map_nil, List.nil_append, List.cons_append, List.append_nil, Option.map_some, Option.bind_some, List.getElem?_cons_zero, List.getElem?_cons_succ, Bool.false_eq_true, not_true_eq_false, not_false_eq_true, List.contains_cons, List.contains_nil, Nat.reduceBEq, Bool.true_or, Bool.false_or, Bool.or_true, List.set_cons_zero, List.set_cons_succ, List.length_cons, List.length_nil, isLd, Bool.true_and, Bool.false_and, Bool.and_true, Bool.and_false, show ((xs.length : Int) = ys.length) = True by simp [hne], not_true]
    refine gLoop_intro (fun m T G' => ∃ k : Nat, T 0 = .slice A xs.length c ∧ T 1 = .slice B ys.length d ∧ T 12 = .int .i64 xs.length ∧ T 13 = .int .i64 k ∧ m + k = xs.length ∧ k ≤ xs.length ∧ G' = G ∧ ∀ i, i < k → xs.getD i 0 = ys.getD i 0) xs.length
      ⟨0, by simp (maxSteps := 300000) (disch := omega) only [gs, gs2, gs3, ↓reduceIte, Nat.reduceEqDiff, Nat.mul_one, Nat.add_zero, Nat.zero_add, Nat.zero_mul, Int.toNat_natCast, Int.reduceToNat, Nat.reduceMul, Nat.reduceAdd, decide_true, decide_false, Bool.not_true, Bool.not_false, true_and, and_true, List.map_cons, List.map_nil, List.nil_append, List.cons_append, List.append_nil, Option.map_some, Option.bind_some, List.getElem?_cons_zero, List.getElem?_cons_succ, Bool.false_eq_true, not_true_eq_false, not_false_eq_true, List.contains_cons, List.contains_nil, Nat.reduceBEq, Bool.true_or, Bool.false_or, Bool.or_true, List.set_cons_zero, List.set_cons_succ, List.length_cons, List.length_nil, isLd, Bool.true_and, Bool.false_and, Bool.and_true, Bool.and_false], by simp (maxSteps := 300000) (disch := omega) only [gs, gs2, gs3, ↓reduceIte, Nat.reduceEqDiff, Nat.mul_one, Nat.add_zero, Nat.zero_add, Nat.zero_mul, Int.toNat_natCast, Int.reduceToNat, Nat.reduceMul, Nat.reduceAdd, decide_true, decide_false, Bool.not_true, Bool.not_false, true_and, and_true, List.map_cons, List.map_nil, List.nil_append, List.cons_append, List.append_nil, Option.map_some, Option.bind_some, List.getElem?_cons_zero, List.getElem?_cons_succ, Bool.false_eq_true, not_true_eq_false, not_false_eq_true, List.contains_cons, List.contains_nil, Nat.reduceBEq, Bool.true_or, Bool.false_or, Bool.or_true, List.set_cons_zero, List.set_cons_succ, List.length_cons, List.length_nil, isLd, Bool.true_and, Bool.false_and, Bool.and_true, Bool.and_false], by simp (maxSteps := 300000) (disch := omega) only [gs, gs2, gs3, ↓reduceIte, Nat.reduceEqDiff, Nat.mul_one, Nat.add_zero, Nat.zero_add, Nat.zero_mul, Int.toNat_natCast, Int.reduceToNat, Nat.reduceMul, Nat.reduceAdd, decide_true, decide_false, Bool.not_true, Bool.not_false, true_and, and_true, List.map_cons, List.map_nil, List.nil_append, List.cons_append, List.append_nil, Option.map_some, Option.bind_some, List.getElem?_cons_zero, List.getElem?_cons_succ, Bool.false_eq_true, not_true_eq_false, not_false_eq_true, List.contains_cons, List.contains_nil, Nat.reduceBEq, Bool.true_or, Bool.false_or, Bool.or_true, List.set_cons_zero, List.set_cons_succ, List.length_cons, List.length_nil, isLd, Bool.true_and, Bool.false_and, Bool.and_true, Bool.and_false], by simp (maxSteps := 300000) (disch := omega) only [gs, gs2, gs3, ↓reduceIte, Nat.reduceEqDiff, Nat.mul_one, Nat.add_zero, Nat.zero_add, Nat.zero_mul, Int.toNat_natCast, Int.reduceToNat, Nat.reduceMul, Nat.reduceAdd, decide_true, decide_false, Bool.not_true, Bool.not_false, true_and, and_true, List.map_cons, List.map_nil, List.nil_append, List.cons_append, List.append_nil, Option.map_some, Option.bind_some, List.getElem?_cons_zero, List.getElem?_cons_succ, Bool.false_eq_true, not_true_eq_false, not_false_eq_true, List.contains_cons, List.contains_nil, Nat.reduceBEq, Bool.true_or, Bool.false_or, Bool.or_true, List.set_cons_zero, List.set_cons_succ, List.length_cons, List.length_nil, isLd, Bool.true_and, Bool.false_and, Bool.and_true, Bool.and_false] <;> rfl, by omega, by omega, rfl, fun i hi => by omega⟩ ?_
    rintro m T G' ⟨k, h0, h1, h5, h6, hm, hkl, rfl, hinv⟩
    simp (maxSteps := 300000) (disch := omega) only [gs, gs2, gs3, ↓reduceIte, Nat.reduceEqDiff, Nat.mul_one, Nat.add_zero, Nat.zero_add, Nat.zero_mul, Int.toNat_natCast, Int.reduceToNat, Nat.reduceMul, Nat.reduceAdd, decide_true, decide_false, Bool.not_true, Bool.not_false, true_and, and_true, List.map_cons, List.map_nil, List.nil_append, List.cons_append, List.append_nil, Option.map_some, Option.bind_some, List.getElem?_cons_zero, List.getElem?_cons_succ, Bool.false_eq_true, not_true_eq_false, not_false_eq_true, List.contains_cons, List.contains_nil, Nat.reduceBEq, Bool.true_or, Bool.false_or, Bool.or_true, List.set_cons_zero, List.set_cons_succ, List.length_cons, List.length_nil, isLd, Bool.true_and, Bool.false_and, Bool.and_true, Bool.and_false, h0, h1, h5, h6]
    by_cases hlt : (k : Int) < xs.length
    · simp (maxSteps := 300000) (disch := omega) only [gs, gs2, gs3, ↓reduceIte, Nat.reduceEqDiff, Nat.mul_one, Nat.add_zero, Nat.zero_add, Nat.zero_mul, Int.toNat_natCast, Int.reduceToNat, Nat.reduceMul, Nat.reduceAdd, decide_true, decide_false, Bool.not_true, Bool.not_false, true_and, and_true, List.map_cons, List.map_nil, List.nil_append, List.cons_append, List.append_nil, Option.map_some, Option.bind_some, List.getElem?_cons_zero, List.getElem?_cons_succ, Bool.false_eq_true, not_true_eq_false, not_false_eq_true, List.contains_cons, List.contains_nil, Nat.reduceBEq, Bool.true_or, Bool.false_or, Bool.or_true, List.set_cons_zero, List.set_cons_succ, List.length_cons, List.length_nil, isLd, Bool.true_and, Bool.false_and, Bool.and_true, Bool.and_false, h0, h1, h5, h6, hlt, hrd, hrd']
      by_cases hkk : xs.getD k 0 = ys.getD k 0
      · simp (maxSteps := 300000) (disch := omega) only [gs, gs2, gs3, ↓reduceIte, Nat.reduceEqDiff, Nat.mul_one, Nat.add_zero, Nat.zero_add, Nat.zero_mul, Int.toNat_natCast, Int.reduceToNat, Nat.reduceMul, Nat.reduceAdd, decide_true, decide_false, Bool.not_true, Bool.not_false, true_and, and_true, List.map_cons, List.map_nil, List.nil_append, List.cons_append, List.append_nil, Option.map_some, Option.bind_some, List.getElem?_cons_zero, List.getElem?_cons_succ, Bool.false_eq_true, not_true_eq_false, not_false_eq_true, List.contains_cons, List.contains_nil, Nat.reduceBEq, Bool.true_or, Bool.false_or, Bool.or_true, List.set_cons_zero, List.set_cons_succ, List.length_cons, List.length_nil, isLd, Bool.true_and, Bool.false_and, Bool.and_true, Bool.and_false, hkk, h0, h1, h5, h6, not_true]
        refine ⟨m - 1, by omega, _, Sub.refl _, k + 1, rfl, by omega, by omega, rfl, fun i hi => ?_⟩
        by_cases hik : i = k
        · subst hik; exact hkk
        · exact hinv i (by omega)
      · simp (maxSteps := 300000) (disch := omega) only [gs, gs2, gs3, ↓reduceIte, Nat.reduceEqDiff, Nat.mul_one, Nat.add_zero, Nat.zero_add, Nat.zero_mul, Int.toNat_natCast, Int.reduceToNat, Nat.reduceMul, Nat.reduceAdd, decide_true, decide_false, Bool.not_true, Bool.not_false, true_and, and_true, List.map_cons, List.map_nil, List.nil_append, List.cons_append, List.append_nil, Option.map_some, Option.bind_some, List.getElem?_cons_zero, List.getElem?_cons_succ, Bool.false_eq_true, not_true_eq_false, not_false_eq_true, List.contains_cons, List.contains_nil, Nat.reduceBEq, Bool.true_or, Bool.false_or, Bool.or_true, List.set_cons_zero, List.set_cons_succ, List.length_cons, List.length_nil, isLd, Bool.true_and, Bool.false_and, Bool.and_true, Bool.and_false, hkk, not_false_eq_true]
        have : ¬ xs = ys := by rintro rfl; exact hkk rfl
        simpa [this] using hk
    · simp (maxSteps := 300000) (disch := omega) only [gs, gs2, gs3, ↓reduceIte, Nat.reduceEqDiff, Nat.mul_one, Nat.add_zero, Nat.zero_add, Nat.zero_mul, Int.toNat_natCast, Int.reduceToNat, Nat.reduceMul, Nat.reduceAdd, decide_true, decide_false, Bool.not_true, Bool.not_false, true_and, and_true, List.map_cons, List.map_nil, List.nil_append, List.cons_append, List.append_nil, Option.map_some, Option.bind_some, List.getElem?_cons_zero, List.getElem?_cons_succ, Bool.false_eq_true, not_true_eq_false, not_false_eq_true, List.contains_cons, List.contains_nil, Nat.reduceBEq, Bool.true_or, Bool.false_or, Bool.or_true, List.set_cons_zero, List.set_cons_succ, List.length_cons, List.length_nil, isLd, Bool.true_and, Bool.false_and, Bool.and_true, Bool.and_false, h0, h1, h5, h6, hlt]
      have : xs = ys := (list_eq_iff hne).2 fun i hi => hinv i (by omega)
      simpa [this] using hk
  · simp (maxSteps := 300000) (disch := omega) only [gs, gs2, gs3, ↓reduceIte, Nat.reduceEqDiff, Nat.mul_one, Nat.add_zero, Nat.zero_add, Nat.zero_mul, Int.toNat_natCast, Int.reduceToNat, Nat.reduceMul, Nat.reduceAdd, decide_true, decide_false, Bool.not_true, Bool.not_false, true_and, and_true, List.map_cons, List.map_nil, List.nil_append, List.cons_append, List.append_nil, Option.map_some, Option.bind_some, List.getElem?_cons_zero, List.getElem?_cons_succ, Bool.false_eq_true, not_true_eq_false, not_false_eq_true, List.contains_cons, List.contains_nil, Nat.reduceBEq, Bool.true_or, Bool.false_or, Bool.or_true, List.set_cons_zero, List.set_cons_succ, List.length_cons, List.length_nil, isLd, Bool.true_and, Bool.false_and, Bool.and_true, Bool.and_false, show ((xs.length : Int) = ys.length) = False by simp; omega, not_false_eq_true]
    have : ¬ xs = ys := by rintro rfl; exact hne rfl
    simpa [this] using hk
/-- the result of a function that returns a number, a list and a code. -/
abbrev ILI (v : Int × List Int × Int) (K : Value → GH → Prop) (G : GH) : Prop := ∀ G' A c, New G G' A c (v.2.1.map I64) 1 v.2.1.length → K (.tuple [.int .i64 v.1, .slice A v.2.1.length c, .int .i64 v.2.2].toArray) G'
theorem ILI.err {K : Value → GH → Prop} {G : GH} {v : Int × List Int × Int} {code : Int} (hk : ILI v K G) (h : v = (0, [], code)) : K (.tuple [.int .i64 0, .slice none 0 0, .int .i64 code].toArray) G := by
  subst h; exact hk G none 0 (New.nil _ _)
theorem restF_succ (step : List Int → List Int) (f : Nat) (k : Int) (x : List Int) : restF step (f + 1) k x = if step x = x then (k, x) else restF step f (k + 1) (step x) := rfl
theorem restF_range (step : List Int → List Int) : ∀ (f : Nat) (k : Int) (x : List Int), (restF step f k x).1 = -1 ∨ (k ≤ (restF step f k x).1 ∧ (restF step f k x).1 < k + f)
  | 0, _, _ => .inl rfl
  | f + 1, k, x => by
    rw [restF_succ]
    split
    · right; dsimp only; omega
    · have := restF_range step f (k + 1) (step x); omega
/-- what 'rest' returns. -/
def restI (v : Int × List Int) (K : Value → GH → Prop) (G : GH) : Prop := (0 ≤ v.1 → ∀ G' A c, New G G' A c (v.2.map I64) 1 v.2.length → K (.tuple [.int .i64 v.1, .slice A v.2.length c].toArray) G') ∧ (v.1 = -1 → K (.tuple [.int .i64 (-1), .slice none 0 0].toArray) G)
theorem impl_rest_ok {G : GH} {B : Option Addr} {d : Nat} {xs : List Int} {f : Value} (P : List Int → Prop) (step : List Int → List Int) (hP : ∀ x, P x → P (step x)) (hl : ∀ x, P x → x.length < 2 ^ 30) (hx : P xs) (hf : IntS G B d xs)
    (hs : ∀ G' A c x, Sub G G' → IntS G' A c x → P x → ∀ K : Value → GH → Prop, (∀ G'' A' c', New G' G'' A' c' ((step x).map I64) 1 (step x).length → K (.slice A' (step x).length c') G'') → gCl Try.prog f [.slice A x.length c] G' K) {K : Value → GH → Prop}
    (hk : restI (restF step 1001 0 xs) K G) : GC Try.prog 111 [.slice B xs.length d, f] G K := by
  refine GC_drop (c_impl_rest_i (by simp) ?_)
  simp (maxSteps := 300000) (disch := omega) only [gs, gs2, gs3, ↓reduceIte, Nat.reduceEqDiff, Nat.mul_one, Nat.add_zero, Nat.zero_add, Nat.zero_mul, Int.toNat_natCast, Int.reduceToNat, Nat.reduceMul, Nat.reduceAdd, decide_true, decide_false, Bool.not_true, Bool.not_false, true_and, and_true, List.map_cons, List.map_nil, List.nil_append, List.cons_append, List.append_nil, Option.map_some, Option.bind_some, List.getElem?_cons_zero, List.getElem?_cons_succ, Bool.false_eq_true, not_true_eq_false, not_false_eq_true, List.contains_cons, List.contains_nil, Nat.reduceBEq, Bool.true_or, Bool.false_or, Bool.or_true, List.set_cons_zero, List.set_cons_succ, List.length_cons, List.length_nil, isLd, Bool.true_and, Bool.false_and, Bool.and_true, Bool.and_false]
  refine gLoop_intro (fun m T G' => ∃ (k : Nat) (x : List Int) (A : Option Addr) (c : Nat), T 0 = .slice A x.length c ∧ T 1 = f ∧ T 6 = .int .i64 k ∧ m + k = 1001 ∧ k ≤ 1001 ∧ Sub G G' ∧ IntS G' A c x ∧ P x ∧ restF step 1001 0 xs = restF step m k x)
    1001 ⟨0, xs, B, d, by simp (maxSteps := 300000) (disch := omega) only [gs, gs2, gs3, ↓reduceIte, Nat.reduceEqDiff, Nat.mul_one, Nat.add_zero, Nat.zero_add, Nat.zero_mul, Int.toNat_natCast, Int.reduceToNat, Nat.reduceMul, Nat.reduceAdd, decide_true, decide_false, Bool.not_true, Bool.not_false, true_and, and_true, List.map_cons, List.map_nil, List.nil_append, List.cons_append, List.append_nil, Option.map_some, Option.bind_some, List.getElem?_cons_zero, List.getElem?_cons_succ, Bool.false_eq_true, not_true_eq_false, not_false_eq_true, List.contains_cons, List.contains_nil, Nat.reduceBEq, Bool.true_or, Bool.false_or, Bool.or_true, List.set_cons_zero, List.set_cons_succ, List.length_cons, List.length_nil, isLd, Bool.true_and, Bool.false_and, Bool.and_true, Bool.and_false], by simp (maxSteps := 300000) (disch := omega) only [gs, gs2, gs3, ↓reduceIte, Nat.reduceEqDiff, Nat.mul_one, Nat.add_zero, Nat.zero_add, Nat.zero_mul, Int.toNat_natCast, Int.reduceToNat, Nat.reduceMul, Nat.reduceAdd, decide_true, decide_false, Bool.not_true, Bool.not_false, true_and, and_true, List.map_cons, List.map_nil, List.nil_append, List.cons_append, List.append_nil, Option.map_some, Option.bind_some, List.getElem?_cons_zero, List.getElem?_cons_succ, Bool.false_eq_true, not_true_eq_false, not_false_eq_true, List.contains_cons, List.contains_nil, Nat.reduceBEq, Bool.true_or, Bool.false_or, Bool.or_true, List.set_cons_zero, List.set_cons_succ, List.length_cons, List.length_nil, isLd, Bool.true_and, Bool.false_and, Bool.and_true, Bool.and_false], by simp (maxSteps := 300000) (disch := omega) only [gs, gs2, gs3, ↓reduceIte, Nat.reduceEqDiff, Nat.mul_one, Nat.add_zero, Nat.zero_add, Nat.zero_mul, Int.toNat_natCast, Int.reduceToNat, Nat.reduceMul, Nat.reduceAdd, decide_true, decide_false, Bool.not_true, Bool.not_false, true_and, and_true, List.map_cons, List.map_nil, List.nil_append, List.cons_append, List.append_nil, Option.map_some, Option.bind_some, List.getElem?_cons_zero, List.getElem?_cons_succ, Bool.false_eq_true, not_true_eq_false, not_false_eq_true, List.contains_cons, List.contains_nil, Nat.reduceBEq, Bool.true_or, Bool.false_or, Bool.or_true, List.set_cons_zero, List.set_cons_succ, List.length_cons, List.length_nil, isLd, Bool.true_and, Bool.false_and, Bool.and_true, Bool.and_false] <;> rfl, by omega, by omega, Sub.refl _, hf, hx, rfl⟩ ?_
  rintro m T G' ⟨k, x, A, c, e0, e1, e6, hm, hkm, s, hx', hPx, he⟩
  simp (maxSteps := 300000) (disch := omega) only [gs, gs2, gs3, ↓reduceIte, Nat.reduceEqDiff, Nat.mul_one, Nat.add_zero, Nat.zero_add, Nat.zero_mul, Int.toNat_natCast, Int.reduceToNat, Nat.reduceMul, Nat.reduceAdd, decide_true, decide_false, Bool.not_true, Bool.not_false, true_and, and_true, List.map_cons, List.map_nil, List.nil_append, List.cons_append, List.append_nil, Option.map_some, Option.bind_some, List.getElem?_cons_zero, List.getElem?_cons_succ, Bool.false_eq_true, not_true_eq_false, not_false_eq_true, List.contains_cons, List.contains_nil, Nat.reduceBEq, Bool.true_or, Bool.false_or, Bool.or_true, List.set_cons_zero, List.set_cons_succ, List.length_cons, List.length_nil, isLd, Bool.true_and, Bool.false_and, Bool.and_true, Bool.and_false, e0, e1, e6]
  by_cases hkk : (k : Int) ≤ 1000
  · simp (maxSteps := 300000) (disch := omega) only [gs, gs2, gs3, ↓reduceIte, Nat.reduceEqDiff, Nat.mul_one, Nat.add_zero, Nat.zero_add, Nat.zero_mul, Int.toNat_natCast, Int.reduceToNat, Nat.reduceMul, Nat.reduceAdd, decide_true, decide_false, Bool.not_true, Bool.not_false, true_and, and_true, List.map_cons, List.map_nil, List.nil_append, List.cons_append, List.append_nil, Option.map_some, Option.bind_some, List.getElem?_cons_zero, List.getElem?_cons_succ, Bool.false_eq_true, not_true_eq_false, not_false_eq_true, List.contains_cons, List.contains_nil, Nat.reduceBEq, Bool.true_or, Bool.false_or, Bool.or_true, List.set_cons_zero, List.set_cons_succ, List.length_cons, List.length_nil, isLd, Bool.true_and, Bool.false_and, Bool.and_true, Bool.and_false, hkk, e0, e1, e6]
    refine hs G' A c x s hx' hPx _ fun G2 A2 c2 hN => ?_
    simp (maxSteps := 300000) (disch := omega) only [gs, gs2, gs3, ↓reduceIte, Nat.reduceEqDiff, Nat.mul_one, Nat.add_zero, Nat.zero_add, Nat.zero_mul, Int.toNat_natCast, Int.reduceToNat, Nat.reduceMul, Nat.reduceAdd, decide_true, decide_false, Bool.not_true, Bool.not_false, true_and, and_true, List.map_cons, List.map_nil, List.nil_append, List.cons_append, List.append_nil, Option.map_some, Option.bind_some, List.getElem?_cons_zero, List.getElem?_cons_succ, Bool.false_eq_true, not_true_eq_false, not_false_eq_true, List.contains_cons, List.contains_nil, Nat.reduceBEq, Bool.true_or, Bool.false_or, Bool.or_true, List.set_cons_zero, List.set_cons_succ, List.length_cons, List.length_nil, isLd, Bool.true_and, Bool.false_and, Bool.and_true, Bool.and_false, e0, e1, e6]
    have hlx := hl x hPx
    have hls := hl _ (hP x hPx)
    refine slices_Equal_int64_ok hN.ints (hx'.sub hN.sub) (by omega) ?_
    obtain ⟨m', rfl⟩ : ∃ m', m = m' + 1 := ⟨m - 1, by omega⟩
    rw [restF_succ step m' k x] at he
    by_cases hq : step x = x
    · simp (maxSteps := 300000) (disch := omega) only [gs, gs2, gs3, ↓reduceIte, Nat.reduceEqDiff, Nat.mul_one, Nat.add_zero, Nat.zero_add, Nat.zero_mul, Int.toNat_natCast, Int.reduceToNat, Nat.reduceMul, Nat.reduceAdd, decide_true, decide_false, Bool.not_true, Bool.not_false, true_and, and_true, List.map_cons, List.map_nil, List.nil_append, List.cons_append, List.append_nil, Option.map_some, Option.bind_some, List.getElem?_cons_zero, List.getElem?_cons_succ, Bool.false_eq_true, not_true_eq_false, not_false_eq_true, List.contains_cons, List.contains_nil, Nat.reduceBEq, Bool.true_or, Bool.false_or, Bool.or_true, List.set_cons_zero, List.set_cons_succ, List.length_cons, List.length_nil, isLd, Bool.true_and, Bool.false_and, Bool.and_true, Bool.and_false, eq_true hq, e0, e1, e6]
      rw [if_pos hq] at he
      rw [he] at hk
      refine slices_Clone_ok (hx'.sub hN.sub) hlx fun G3 A3 c3 hN3 => ?_
      simp (maxSteps := 300000) (disch := omega) only [gs, gs2, gs3, ↓reduceIte, Nat.reduceEqDiff, Nat.mul_one, Nat.add_zero, Nat.zero_add, Nat.zero_mul, Int.toNat_natCast, Int.reduceToNat, Nat.reduceMul, Nat.reduceAdd, decide_true, decide_false, Bool.not_true, Bool.not_false, true_and, and_true, List.map_cons, List.map_nil, List.nil_append, List.cons_append, List.append_nil, Option.map_some, Option.bind_some, List.getElem?_cons_zero, List.getElem?_cons_succ, Bool.false_eq_true, not_true_eq_false, not_false_eq_true, List.contains_cons, List.contains_nil, Nat.reduceBEq, Bool.true_or, Bool.false_or, Bool.or_true, List.set_cons_zero, List.set_cons_succ, List.length_cons, List.length_nil, isLd, Bool.true_and, Bool.false_and, Bool.and_true, Bool.and_false, e0, e1, e6]
      obtain ⟨G4, s4, hN4⟩ := hN3.low (s.trans hN.sub)
      exact ⟨G4, s4, hk.1 (by dsimp only; omega) _ _ _ hN4⟩
    · rw [decide_eq_false hq]
      simp (maxSteps := 300000) (disch := omega) only [gs, gs2, gs3, ↓reduceIte, Nat.reduceEqDiff, Nat.mul_one, Nat.add_zero, Nat.zero_add, Nat.zero_mul, Int.toNat_natCast, Int.reduceToNat, Nat.reduceMul, Nat.reduceAdd, decide_true, decide_false, Bool.not_true, Bool.not_false, true_and, and_true, List.map_cons, List.map_nil, List.nil_append, List.cons_append, List.append_nil, Option.map_some, Option.bind_some, List.getElem?_cons_zero, List.getElem?_cons_succ, Bool.false_eq_true, not_true_eq_false, not_false_eq_true, List.contains_cons, List.contains_nil, Nat.reduceBEq, Bool.true_or, Bool.false_or, Bool.or_true, List.set_cons_zero, List.set_cons_succ, List.length_cons, List.length_nil, isLd, Bool.true_and, Bool.false_and, Bool.and_true, Bool.and_false, e0, e1, e6]
      rw [if_neg hq] at he
      exact ⟨m', by omega, G2, Sub.refl _, k + 1, step x, A2, c2, rfl, rfl, by omega, by omega, s.trans hN.sub, hN.ints, hP x hPx, by rw [he]; rfl⟩
  · simp (maxSteps := 300000) (disch := omega) only [gs, gs2, gs3, ↓reduceIte, Nat.reduceEqDiff, Nat.mul_one, Nat.add_zero, Nat.zero_add, Nat.zero_mul, Int.toNat_natCast, Int.reduceToNat, Nat.reduceMul, Nat.reduceAdd, decide_true, decide_false, Bool.not_true, Bool.not_false, true_and, and_true, List.map_cons, List.map_nil, List.nil_append, List.cons_append, List.append_nil, Option.map_some, Option.bind_some, List.getElem?_cons_zero, List.getElem?_cons_succ, Bool.false_eq_true, not_true_eq_false, not_false_eq_true, List.contains_cons, List.contains_nil, Nat.reduceBEq, Bool.true_or, Bool.false_or, Bool.or_true, List.set_cons_zero, List.set_cons_succ, List.length_cons, List.length_nil, isLd, Bool.true_and, Bool.false_and, Bool.and_true, Bool.and_false, hkk, e0, e1, e6]
    obtain rfl : m = 0 := by omega
    rw [he] at hk
    exact ⟨G, s, hk.2 rfl⟩
noncomputable def runV (N : Gra) (xs : List Int) (own : Int) (fixed : List Int) (rounds : Int) : List Int × Int := if stepC N xs own fixed ≠ 0 then ([], stepC N xs own fixed) else if 0 ≤ rounds ∧ rounds ≤ 1000 then (runF (avStep N.edges own 2000000 fixed) rounds.toNat xs, 0) else ([], 2)
theorem runF_len (es : List T3) (own lim : Int) (fixed xs : List Int) (k : Nat) : (runF (avStep es own lim fixed) k xs).length = xs.length := runF_inv (P := fun x => x.length = xs.length) (fun x hx => by rw [avStep_len]; exact hx) rfl k
theorem impl_RunRounds_ok {G : GH} {N : Gra} {A B C : Option Addr} {c d e : Nat} {xs fixed : List Int} {own rounds : Int} (h : T3S G A c N.edges) (hf : IntS G B d xs) (hg : IntS G C e fixed) (hl : N.edges.length < 2 ^ 40) (hl' : xs.length < 2 ^ 40) (hl2 : fixed.length < 2 ^ 40) {K : Value → GH → Prop}
    (hk : LI (runV N xs own fixed rounds) K G) : GC Try.prog 47 [graV N A c, .slice B xs.length d, .int .i64 own, .slice C fixed.length e, .int .i64 rounds] G K := by
  refine GC_drop (c_impl_RunRounds_i (by simp) ?_)
  unfold graV graC
  simp (maxSteps := 300000) (disch := omega) only [gs, gs2, gs3, ↓reduceIte, Nat.reduceEqDiff, Nat.mul_one, Nat.add_zero, Nat.zero_add, Nat.zero_mul, Int.toNat_natCast, Int.reduceToNat, Nat.reduceMul, Nat.reduceAdd, decide_true, decide_false, Bool.not_true, Bool.not_false, true_and, and_true, List.map_cons, List.map_nil, List.nil_append, List.cons_append, List.append_nil, Option.map_some, Option.bind_some, List.getElem?_cons_zero, List.getElem?_cons_succ, Bool.false_eq_true, not_true_eq_false, not_false_eq_true, List.contains_cons, List.contains_nil, Nat.reduceBEq, Bool.true_or, Bool.false_or, Bool.or_true, List.set_cons_zero, List.set_cons_succ, List.length_cons, List.length_nil, isLd, Bool.true_and, Bool.false_and, Bool.and_true, Bool.and_false]
  intro b2 hb2
  simp (maxSteps := 300000) (disch := omega) only [gs, gs2, gs3, ↓reduceIte, Nat.reduceEqDiff, Nat.mul_one, Nat.add_zero, Nat.zero_add, Nat.zero_mul, Int.toNat_natCast, Int.reduceToNat, Nat.reduceMul, Nat.reduceAdd, decide_true, decide_false, Bool.not_true, Bool.not_false, true_and, and_true, List.map_cons, List.map_nil, List.nil_append, List.cons_append, List.append_nil, Option.map_some, Option.bind_some, List.getElem?_cons_zero, List.getElem?_cons_succ, Bool.false_eq_true, not_true_eq_false, not_false_eq_true, List.contains_cons, List.contains_nil, Nat.reduceBEq, Bool.true_or, Bool.false_or, Bool.or_true, List.set_cons_zero, List.set_cons_succ, List.length_cons, List.length_nil, isLd, Bool.true_and, Bool.false_and, Bool.and_true, Bool.and_false]
  have s1 := Sub.put hb2 ⟨[.int .i64 N.n, .slice A N.edges.length c], true⟩
  have f0 : rd (put G b2 ⟨[.int .i64 N.n, .slice A N.edges.length c], true⟩) (some ⟨b2, 0, none⟩) = some (.int .i64 N.n) := rd_box _ _ _ 0 _ rfl
  have f1 : rd (put G b2 ⟨[.int .i64 N.n, .slice A N.edges.length c], true⟩) (some ⟨b2, 1, none⟩) = some (.slice A N.edges.length c) := rd_box _ _ _ 1 _ rfl
  revert s1 f0 f1
  generalize put G b2 ⟨[.int .i64 N.n, .slice A N.edges.length c], true⟩ = G1
  intro s1 f0 f1
  refine impl_stepped_ok (N := N) (h.sub s1) (hf.sub s1) (hg.sub s1) hl hl' hl2 ?_
  simp (maxSteps := 300000) (disch := omega) only [gs, gs2, gs3, ↓reduceIte, Nat.reduceEqDiff, Nat.mul_one, Nat.add_zero, Nat.zero_add, Nat.zero_mul, Int.toNat_natCast, Int.reduceToNat, Nat.reduceMul, Nat.reduceAdd, decide_true, decide_false, Bool.not_true, Bool.not_false, true_and, and_true, List.map_cons, List.map_nil, List.nil_append, List.cons_append, List.append_nil, Option.map_some, Option.bind_some, List.getElem?_cons_zero, List.getElem?_cons_succ, Bool.false_eq_true, not_true_eq_false, not_false_eq_true, List.contains_cons, List.contains_nil, Nat.reduceBEq, Bool.true_or, Bool.false_or, Bool.or_true, List.set_cons_zero, List.set_cons_succ, List.length_cons, List.length_nil, isLd, Bool.true_and, Bool.false_and, Bool.and_true, Bool.and_false]
  by_cases g0 : stepC N xs own fixed = 0
  · simp (maxSteps := 300000) (disch := omega) only [gs, gs2, gs3, ↓reduceIte, Nat.reduceEqDiff, Nat.mul_one, Nat.add_zero, Nat.zero_add, Nat.zero_mul, Int.toNat_natCast, Int.reduceToNat, Nat.reduceMul, Nat.reduceAdd, decide_true, decide_false, Bool.not_true, Bool.not_false, true_and, and_true, List.map_cons, List.map_nil, List.nil_append, List.cons_append, List.append_nil, Option.map_some, Option.bind_some, List.getElem?_cons_zero, List.getElem?_cons_succ, Bool.false_eq_true, not_true_eq_false, not_false_eq_true, List.contains_cons, List.contains_nil, Nat.reduceBEq, Bool.true_or, Bool.false_or, Bool.or_true, List.set_cons_zero, List.set_cons_succ, List.length_cons, List.length_nil, isLd, Bool.true_and, Bool.false_and, Bool.and_true, Bool.and_false, eq_true g0]
    obtain ⟨⟨hn, hx⟩, ho, hs⟩ := stepC_zero.1 g0
    have hn1 := hn.1
    have hx1 := hx.1
    refine impl_within_ok _ _ _ ?_
    simp (maxSteps := 300000) (disch := omega) only [gs, gs2, gs3, ↓reduceIte, Nat.reduceEqDiff, Nat.mul_one, Nat.add_zero, Nat.zero_add, Nat.zero_mul, Int.toNat_natCast, Int.reduceToNat, Nat.reduceMul, Nat.reduceAdd, decide_true, decide_false, Bool.not_true, Bool.not_false, true_and, and_true, List.map_cons, List.map_nil, List.nil_append, List.cons_append, List.append_nil, Option.map_some, Option.bind_some, List.getElem?_cons_zero, List.getElem?_cons_succ, Bool.false_eq_true, not_true_eq_false, not_false_eq_true, List.contains_cons, List.contains_nil, Nat.reduceBEq, Bool.true_or, Bool.false_or, Bool.or_true, List.set_cons_zero, List.set_cons_succ, List.length_cons, List.length_nil, isLd, Bool.true_and, Bool.false_and, Bool.and_true, Bool.and_false]
    cases g1 : decide (0 ≤ rounds ∧ rounds ≤ 1000)
    · simp (maxSteps := 300000) (disch := omega) only [gs, gs2, gs3, ↓reduceIte, Nat.reduceEqDiff, Nat.mul_one, Nat.add_zero, Nat.zero_add, Nat.zero_mul, Int.toNat_natCast, Int.reduceToNat, Nat.reduceMul, Nat.reduceAdd, decide_true, decide_false, Bool.not_true, Bool.not_false, true_and, and_true, List.map_cons, List.map_nil, List.nil_append, List.cons_append, List.append_nil, Option.map_some, Option.bind_some, List.getElem?_cons_zero, List.getElem?_cons_succ, Bool.false_eq_true, not_true_eq_false, not_false_eq_true, List.contains_cons, List.contains_nil, Nat.reduceBEq, Bool.true_or, Bool.false_or, Bool.or_true, List.set_cons_zero, List.set_cons_succ, List.length_cons, List.length_nil, isLd, Bool.true_and, Bool.false_and, Bool.and_true, Bool.and_false]
      have g1 := of_decide_eq_false g1
      exact ⟨G, s1, hk.err (by unfold runV; rw [if_neg (by simp [g0]), if_neg g1])⟩
    · have g1 := of_decide_eq_true g1
      simp (maxSteps := 300000) (disch := omega) only [gs, gs2, gs3, ↓reduceIte, Nat.reduceEqDiff, Nat.mul_one, Nat.add_zero, Nat.zero_add, Nat.zero_mul, Int.toNat_natCast, Int.reduceToNat, Nat.reduceMul, Nat.reduceAdd, decide_true, decide_false, Bool.not_true, Bool.not_false, true_and, and_true, List.map_cons, List.map_nil, List.nil_append, List.cons_append, List.append_nil, Option.map_some, Option.bind_some, List.getElem?_cons_zero, List.getElem?_cons_succ, Bool.false_eq_true, not_true_eq_false, not_false_eq_true, List.contains_cons, List.contains_nil, Nat.reduceBEq, Bool.true_or, Bool.false_or, Bool.or_true, List.set_cons_zero, List.set_cons_succ, List.length_cons, List.length_nil, isLd, Bool.true_and, Bool.false_and, Bool.and_true, Bool.and_false]
      have hV : runV N xs own fixed rounds = (runF (avStep N.edges own 2000000 fixed) rounds.toNat xs, 0) := by unfold runV; rw [if_neg (by simp [g0]), if_pos g1]
      rw [hV] at hk
      refine slices_Clone_ok (hf.sub s1) (by omega) fun G2 A2 c2 hN => ?_
      simp (maxSteps := 300000) (disch := omega) only [gs, gs2, gs3, ↓reduceIte, Nat.reduceEqDiff, Nat.mul_one, Nat.add_zero, Nat.zero_add, Nat.zero_mul, Int.toNat_natCast, Int.reduceToNat, Nat.reduceMul, Nat.reduceAdd, decide_true, decide_false, Bool.not_true, Bool.not_false, true_and, and_true, List.map_cons, List.map_nil, List.nil_append, List.cons_append, List.append_nil, Option.map_some, Option.bind_some, List.getElem?_cons_zero, List.getElem?_cons_succ, Bool.false_eq_true, not_true_eq_false, not_false_eq_true, List.contains_cons, List.contains_nil, Nat.reduceBEq, Bool.true_or, Bool.false_or, Bool.or_true, List.set_cons_zero, List.set_cons_succ, List.length_cons, List.length_nil, isLd, Bool.true_and, Bool.false_and, Bool.and_true, Bool.and_false]
      refine gLoop_intro (fun m T G' => ∃ (k : Nat) (Ax : Option Addr) (cx : Nat) (Gb : GH), T 2 = .int .i64 own ∧ T 3 = .slice C fixed.length e ∧ T 5 = .pointer (some ⟨b2, 0, none⟩) ∧ T 13 = .slice Ax xs.length cx ∧ T 27 = .int .i64 rounds ∧ T 28 = .int .i64 k ∧ m + k = rounds.toNat ∧ k ≤ rounds.toNat ∧ Sub G1 Gb ∧ New Gb G' Ax cx ((runF (avStep N.edges own 2000000 fixed) k xs).map I64) 1 xs.length)
        rounds.toNat ⟨0, A2, c2, G1, by simp (maxSteps := 300000) (disch := omega) only [gs, gs2, gs3, ↓reduceIte, Nat.reduceEqDiff, Nat.mul_one, Nat.add_zero, Nat.zero_add, Nat.zero_mul, Int.toNat_natCast, Int.reduceToNat, Nat.reduceMul, Nat.reduceAdd, decide_true, decide_false, Bool.not_true, Bool.not_false, true_and, and_true, List.map_cons, List.map_nil, List.nil_append, List.cons_append, List.append_nil, Option.map_some, Option.bind_some, List.getElem?_cons_zero, List.getElem?_cons_succ, Bool.false_eq_true, not_true_eq_false, not_false_eq_true, List.contains_cons, List.contains_nil, Nat.reduceBEq, Bool.true_or, Bool.false_or, Bool.or_true, List.set_cons_zero, List.set_cons_succ, List.length_cons, List.length_nil, isLd, Bool.true_and, Bool.false_and, Bool.and_true, Bool.and_false], by simp (maxSteps := 300000) (disch := omega) only [gs, gs2, gs3, ↓reduceIte, Nat.reduceEqDiff, Nat.mul_one, Nat.add_zero, Nat.zero_add, Nat.zero_mul, Int.toNat_natCast, Int.reduceToNat, Nat.reduceMul, Nat.reduceAdd, decide_true, decide_false, Bool.not_true, Bool.not_false, true_and, and_true, List.map_cons, List.map_nil, List.nil_append, List.cons_append, List.append_nil, Option.map_some, Option.bind_some, List.getElem?_cons_zero, List.getElem?_cons_succ, Bool.false_eq_true, not_true_eq_false, not_false_eq_true, List.contains_cons, List.contains_nil, Nat.reduceBEq, Bool.true_or, Bool.false_or, Bool.or_true, List.set_cons_zero, List.set_cons_succ, List.length_cons, List.length_nil, isLd, Bool.true_and, Bool.false_and, Bool.and_true, Bool.and_false], by simp (maxSteps := 300000) (disch := omega) only [gs, gs2, gs3, ↓reduceIte, Nat.reduceEqDiff, Nat.mul_one, Nat.add_zero, Nat.zero_add, Nat.zero_mul, Int.toNat_natCast, Int.reduceToNat, Nat.reduceMul, Nat.reduceAdd, decide_true, decide_false, Bool.not_true, Bool.not_false, true_and, and_true, List.map_cons, List.map_nil, List.nil_append, List.cons_append, List.append_nil, Option.map_some, Option.bind_some, List.getElem?_cons_zero, List.getElem?_cons_succ, Bool.false_eq_true, not_true_eq_false, not_false_eq_true, List.contains_cons, List.contains_nil, Nat.reduceBEq, Bool.true_or, Bool.false_or, Bool.or_true, List.set_cons_zero, List.set_cons_succ, List.length_cons, List.length_nil, isLd, Bool.true_and, Bool.false_and, Bool.and_true, Bool.and_false], by simp (maxSteps := 300000) (disch := omega) only [gs, gs2, gs3, ↓reduceIte, Nat.reduceEqDiff, Nat.mul_one, Nat.add_zero, Nat.zero_add, Nat.zero_mul, Int.toNat_natCast, Int.reduceToNat, Nat.reduceMul, Nat.reduceAdd, decide_true, decide_false, Bool.not_true, Bool.not_false, true_and, and_true, List.map_cons, List.map_nil, List.nil_append, List.cons_append, List.append_nil, Option.map_some, Option.bind_some, List.getElem?_cons_zero, List.getElem?_cons_succ, Bool.false_eq_true, not_true_eq_false, not_false_eq_true, List.contains_cons, List.contains_nil, Nat.reduceBEq, Bool.true_or, Bool.false_or, Bool.or_true, List.set_cons_zero, List.set_cons_succ, List.length_cons, List.length_nil, isLd, Bool.true_and, Bool.false_and, Bool.and_true, Bool.and_false], by simp (maxSteps := 300000) (disch := omega) only [gs, gs2, gs3, ↓reduceIte, Nat.reduceEqDiff, Nat.mul_one, Nat.add_zero, Nat.zero_add, Nat.zero_mul, Int.toNat_natCast, Int.reduceToNat, Nat.reduceMul, Nat.reduceAdd, decide_true, decide_false, Bool.not_true, Bool.not_false, true_and, and_true, List.map_cons, List.map_nil, List.nil_append, List.cons_append, List.append_nil, Option.map_some, Option.bind_some, List.getElem?_cons_zero, List.getElem?_cons_succ, Bool.false_eq_true, not_true_eq_false, not_false_eq_true, List.contains_cons, List.contains_nil, Nat.reduceBEq, Bool.true_or, Bool.false_or, Bool.or_true, List.set_cons_zero, List.set_cons_succ, List.length_cons, List.length_nil, isLd, Bool.true_and, Bool.false_and, Bool.and_true, Bool.and_false], by simp (maxSteps := 300000) (disch := omega) only [gs, gs2, gs3, ↓reduceIte, Nat.reduceEqDiff, Nat.mul_one, Nat.add_zero, Nat.zero_add, Nat.zero_mul, Int.toNat_natCast, Int.reduceToNat, Nat.reduceMul, Nat.reduceAdd, decide_true, decide_false, Bool.not_true, Bool.not_false, true_and, and_true, List.map_cons, List.map_nil, List.nil_append, List.cons_append, List.append_nil, Option.map_some, Option.bind_some, List.getElem?_cons_zero, List.getElem?_cons_succ, Bool.false_eq_true, not_true_eq_false, not_false_eq_true, List.contains_cons, List.contains_nil, Nat.reduceBEq, Bool.true_or, Bool.false_or, Bool.or_true, List.set_cons_zero, List.set_cons_succ, List.length_cons, List.length_nil, isLd, Bool.true_and, Bool.false_and, Bool.and_true, Bool.and_false] <;> rfl, by omega, by omega, Sub.refl _, hN⟩ ?_
      rintro m T G' ⟨k, Ax, cx, Gb, e2, e3, e5, e13, e27, e28, hm, hkm, sb, hN⟩
      have sG := sb.trans hN.sub
      have f0' := rd_sub sG f0
      have f1' := rd_sub sG f1
      simp (maxSteps := 300000) (disch := omega) only [gs, gs2, gs3, ↓reduceIte, Nat.reduceEqDiff, Nat.mul_one, Nat.add_zero, Nat.zero_add, Nat.zero_mul, Int.toNat_natCast, Int.reduceToNat, Nat.reduceMul, Nat.reduceAdd, decide_true, decide_false, Bool.not_true, Bool.not_false, true_and, and_true, List.map_cons, List.map_nil, List.nil_append, List.cons_append, List.append_nil, Option.map_some, Option.bind_some, List.getElem?_cons_zero, List.getElem?_cons_succ, Bool.false_eq_true, not_true_eq_false, not_false_eq_true, List.contains_cons, List.contains_nil, Nat.reduceBEq, Bool.true_or, Bool.false_or, Bool.or_true, List.set_cons_zero, List.set_cons_succ, List.length_cons, List.length_nil, isLd, Bool.true_and, Bool.false_and, Bool.and_true, Bool.and_false, e2, e3, e5, e13, e27, e28]
      by_cases hkk : (k : Int) < rounds
      · simp (maxSteps := 300000) (disch := omega) only [gs, gs2, gs3, ↓reduceIte, Nat.reduceEqDiff, Nat.mul_one, Nat.add_zero, Nat.zero_add, Nat.zero_mul, Int.toNat_natCast, Int.reduceToNat, Nat.reduceMul, Nat.reduceAdd, decide_true, decide_false, Bool.not_true, Bool.not_false, true_and, and_true, List.map_cons, List.map_nil, List.nil_append, List.cons_append, List.append_nil, Option.map_some, Option.bind_some, List.getElem?_cons_zero, List.getElem?_cons_succ, Bool.false_eq_true, not_true_eq_false, not_false_eq_true, List.contains_cons, List.contains_nil, Nat.reduceBEq, Bool.true_or, Bool.false_or, Bool.or_true, List.set_cons_zero, List.set_cons_succ, List.length_cons, List.length_nil, isLd, Bool.true_and, Bool.false_and, Bool.and_true, Bool.and_false, hkk, e2, e3, e5, e13, e27, e28, f0', f1']
        have hlk := runF_len N.edges own 2000000 fixed xs k
        have hok : VecOk N (runF (avStep N.edges own 2000000 fixed) k xs) := runF_inv (P := VecOk N) (fun x hx => avStep_ok hn hx ho fixed) hx k
        have hI := hN.ints' hlk.symm
        rw [show Value.slice Ax xs.length cx = .slice Ax (runF (avStep N.edges own 2000000 fixed) k xs).length cx by rw [hlk]]
        refine impl_averaged_ok (N := N) ((h.sub s1).sub sG) hI ((hg.sub s1).sub sG) hl2 hn hok ho fun G3 A3 c3 hN3 => ?_
        simp (maxSteps := 300000) (disch := omega) only [gs, gs2, gs3, ↓reduceIte, Nat.reduceEqDiff, Nat.mul_one, Nat.add_zero, Nat.zero_add, Nat.zero_mul, Int.toNat_natCast, Int.reduceToNat, Nat.reduceMul, Nat.reduceAdd, decide_true, decide_false, Bool.not_true, Bool.not_false, true_and, and_true, List.map_cons, List.map_nil, List.nil_append, List.cons_append, List.append_nil, Option.map_some, Option.bind_some, List.getElem?_cons_zero, List.getElem?_cons_succ, Bool.false_eq_true, not_true_eq_false, not_false_eq_true, List.contains_cons, List.contains_nil, Nat.reduceBEq, Bool.true_or, Bool.false_or, Bool.or_true, List.set_cons_zero, List.set_cons_succ, List.length_cons, List.length_nil, isLd, Bool.true_and, Bool.false_and, Bool.and_true, Bool.and_false, e2, e3, e5, e13, e27, e28]
        exact ⟨m - 1, by omega, G3, Sub.refl _, k + 1, A3, c3, G', by rw [hlk], rfl, by omega, by omega, sG, hN3.cast rfl hlk⟩
      · simp (maxSteps := 300000) (disch := omega) only [gs, gs2, gs3, ↓reduceIte, Nat.reduceEqDiff, Nat.mul_one, Nat.add_zero, Nat.zero_add, Nat.zero_mul, Int.toNat_natCast, Int.reduceToNat, Nat.reduceMul, Nat.reduceAdd, decide_true, decide_false, Bool.not_true, Bool.not_false, true_and, and_true, List.map_cons, List.map_nil, List.nil_append, List.cons_append, List.append_nil, Option.map_some, Option.bind_some, List.getElem?_cons_zero, List.getElem?_cons_succ, Bool.false_eq_true, not_true_eq_false, not_false_eq_true, List.contains_cons, List.contains_nil, Nat.reduceBEq, Bool.true_or, Bool.false_or, Bool.or_true, List.set_cons_zero, List.set_cons_succ, List.length_cons, List.length_nil, isLd, Bool.true_and, Bool.false_and, Bool.and_true, Bool.and_false, hkk, e2, e3, e5, e13, e27, e28]
        obtain rfl : k = rounds.toNat := by omega
        obtain ⟨G'', s2, hN2⟩ := hN.low (s1.trans sb)
        have hlk := runF_len N.edges own 2000000 fixed xs rounds.toNat
        have := hk _ _ _ (hN2.cast rfl hlk.symm)
        rw [hlk] at this
        exact ⟨G'', s2, this⟩
  · simp (maxSteps := 300000) (disch := omega) only [gs, gs2, gs3, ↓reduceIte, Nat.reduceEqDiff, Nat.mul_one, Nat.add_zero, Nat.zero_add, Nat.zero_mul, Int.toNat_natCast, Int.reduceToNat, Nat.reduceMul, Nat.reduceAdd, decide_true, decide_false, Bool.not_true, Bool.not_false, true_and, and_true, List.map_cons, List.map_nil, List.nil_append, List.cons_append, List.append_nil, Option.map_some, Option.bind_some, List.getElem?_cons_zero, List.getElem?_cons_succ, Bool.false_eq_true, not_true_eq_false, not_false_eq_true, List.contains_cons, List.contains_nil, Nat.reduceBEq, Bool.true_or, Bool.false_or, Bool.or_true, List.set_cons_zero, List.set_cons_succ, List.length_cons, List.length_nil, isLd, Bool.true_and, Bool.false_and, Bool.and_true, Bool.and_false, eq_false g0]
    exact ⟨G, s1, hk.err (by unfold runV; rw [if_pos g0])⟩
theorem impl_AverageStep_ok {G : GH} {N : Gra} {A B C : Option Addr} {c d e : Nat} {xs fixed : List Int} {own : Int} (h : T3S G A c N.edges) (hf : IntS G B d xs) (hg : IntS G C e fixed) (hl : N.edges.length < 2 ^ 40) (hl' : xs.length < 2 ^ 40) (hl2 : fixed.length < 2 ^ 40) {K : Value → GH → Prop}
    (hk : LI (runV N xs own fixed 1) K G) : GC Try.prog 45 [graV N A c, .slice B xs.length d, .int .i64 own, .slice C fixed.length e] G K := by
  refine GC_drop (c_impl_AverageStep_i (by simp) ?_)
  unfold graV graC
  simp (maxSteps := 300000) (disch := omega) only [gs, gs2, gs3, ↓reduceIte, Nat.reduceEqDiff, Nat.mul_one, Nat.add_zero, Nat.zero_add, Nat.zero_mul, Int.toNat_natCast, Int.reduceToNat, Nat.reduceMul, Nat.reduceAdd, decide_true, decide_false, Bool.not_true, Bool.not_false, true_and, and_true, List.map_cons, List.map_nil, List.nil_append, List.cons_append, List.append_nil, Option.map_some, Option.bind_some, List.getElem?_cons_zero, List.getElem?_cons_succ, Bool.false_eq_true, not_true_eq_false, not_false_eq_true, List.contains_cons, List.contains_nil, Nat.reduceBEq, Bool.true_or, Bool.false_or, Bool.or_true, List.set_cons_zero, List.set_cons_succ, List.length_cons, List.length_nil, isLd, Bool.true_and, Bool.false_and, Bool.and_true, Bool.and_false]
  intro b2 hb2
  simp (maxSteps := 300000) (disch := omega) only [gs, gs2, gs3, ↓reduceIte, Nat.reduceEqDiff, Nat.mul_one, Nat.add_zero, Nat.zero_add, Nat.zero_mul, Int.toNat_natCast, Int.reduceToNat, Nat.reduceMul, Nat.reduceAdd, decide_true, decide_false, Bool.not_true, Bool.not_false, true_and, and_true, List.map_cons, List.map_nil, List.nil_append, List.cons_append, List.append_nil, Option.map_some, Option.bind_some, List.getElem?_cons_zero, List.getElem?_cons_succ, Bool.false_eq_true, not_true_eq_false, not_false_eq_true, List.contains_cons, List.contains_nil, Nat.reduceBEq, Bool.true_or, Bool.false_or, Bool.or_true, List.set_cons_zero, List.set_cons_succ, List.length_cons, List.length_nil, isLd, Bool.true_and, Bool.false_and, Bool.and_true, Bool.and_false]
  have s1 := Sub.put hb2 ⟨[.int .i64 N.n, .slice A N.edges.length c], true⟩
  refine impl_RunRounds_ok (N := N) (h.sub s1) (hf.sub s1) (hg.sub s1) hl hl' hl2 fun G' A' c' hN => ?_
  simp (maxSteps := 300000) (disch := omega) only [gs, gs2, gs3, ↓reduceIte, Nat.reduceEqDiff, Nat.mul_one, Nat.add_zero, Nat.zero_add, Nat.zero_mul, Int.toNat_natCast, Int.reduceToNat, Nat.reduceMul, Nat.reduceAdd, decide_true, decide_false, Bool.not_true, Bool.not_false, true_and, and_true, List.map_cons, List.map_nil, List.nil_append, List.cons_append, List.append_nil, Option.map_some, Option.bind_some, List.getElem?_cons_zero, List.getElem?_cons_succ, Bool.false_eq_true, not_true_eq_false, not_false_eq_true, List.contains_cons, List.contains_nil, Nat.reduceBEq, Bool.true_or, Bool.false_or, Bool.or_true, List.set_cons_zero, List.set_cons_succ, List.length_cons, List.length_nil, isLd, Bool.true_and, Bool.false_and, Bool.and_true, Bool.and_false]
  obtain ⟨G'', s2, hN2⟩ := hN.low s1
  exact ⟨G'', s2, hk _ _ _ hN2⟩
theorem impl_averageRest_ok {G : GH} {N : Gra} {A B C : Option Addr} {c d e : Nat} {xs fixed : List Int} {own : Int} (h : T3S G A c N.edges) (hf : IntS G B d xs) (hg : IntS G C e fixed) (hl2 : fixed.length < 2 ^ 40) (hn : GraOk N) (hx : VecOk N xs) (ho : 0 ≤ own ∧ own ≤ 1000) {K : Value → GH → Prop}
    (hk : restI (restF (avStep N.edges own 2000000 fixed) 1001 0 xs) K G) : GC Try.prog 125 [graV N A c, .slice B xs.length d, .int .i64 own, .slice C fixed.length e] G K := by
  refine GC_drop (c_impl_averageRest_i (by simp) ?_)
  have hn1 := hn.1
  unfold graV graC
  simp (maxSteps := 300000) (disch := omega) only [gs, gs2, gs3, ↓reduceIte, Nat.reduceEqDiff, Nat.mul_one, Nat.add_zero, Nat.zero_add, Nat.zero_mul, Int.toNat_natCast, Int.reduceToNat, Nat.reduceMul, Nat.reduceAdd, decide_true, decide_false, Bool.not_true, Bool.not_false, true_and, and_true, List.map_cons, List.map_nil, List.nil_append, List.cons_append, List.append_nil, Option.map_some, Option.bind_some, List.getElem?_cons_zero, List.getElem?_cons_succ, Bool.false_eq_true, not_true_eq_false, not_false_eq_true, List.contains_cons, List.contains_nil, Nat.reduceBEq, Bool.true_or, Bool.false_or, Bool.or_true, List.set_cons_zero, List.set_cons_succ, List.length_cons, List.length_nil, isLd, Bool.true_and, Bool.false_and, Bool.and_true, Bool.and_false]
  intro b4 hb4
  simp (maxSteps := 300000) (disch := omega) only [gs, gs2, gs3, ↓reduceIte, Nat.reduceEqDiff, Nat.mul_one, Nat.add_zero, Nat.zero_add, Nat.zero_mul, Int.toNat_natCast, Int.reduceToNat, Nat.reduceMul, Nat.reduceAdd, decide_true, decide_false, Bool.not_true, Bool.not_false, true_and, and_true, List.map_cons, List.map_nil, List.nil_append, List.cons_append, List.append_nil, Option.map_some, Option.bind_some, List.getElem?_cons_zero, List.getElem?_cons_succ, Bool.false_eq_true, not_true_eq_false, not_false_eq_true, List.contains_cons, List.contains_nil, Nat.reduceBEq, Bool.true_or, Bool.false_or, Bool.or_true, List.set_cons_zero, List.set_cons_succ, List.length_cons, List.length_nil, isLd, Bool.true_and, Bool.false_and, Bool.and_true, Bool.and_false]
  intro b6 hb6
  simp (maxSteps := 300000) (disch := omega) only [gs, gs2, gs3, ↓reduceIte, Nat.reduceEqDiff, Nat.mul_one, Nat.add_zero, Nat.zero_add, Nat.zero_mul, Int.toNat_natCast, Int.reduceToNat, Nat.reduceMul, Nat.reduceAdd, decide_true, decide_false, Bool.not_true, Bool.not_false, true_and, and_true, List.map_cons, List.map_nil, List.nil_append, List.cons_append, List.append_nil, Option.map_some, Option.bind_some, List.getElem?_cons_zero, List.getElem?_cons_succ, Bool.false_eq_true, not_true_eq_false, not_false_eq_true, List.contains_cons, List.contains_nil, Nat.reduceBEq, Bool.true_or, Bool.false_or, Bool.or_true, List.set_cons_zero, List.set_cons_succ, List.length_cons, List.length_nil, isLd, Bool.true_and, Bool.false_and, Bool.and_true, Bool.and_false]
  intro b7 hb7
  have q6 := hb6
  have q7 := hb7
  simp only [put_none] at q6 q7
  have s1 := (((Sub.refl G).skip hb4 (e := ⟨[.int .i64 N.n, .slice A N.edges.length c], true⟩)).skip q6.2 (e := ⟨[.int .i64 own], true⟩)).skip q7.2.2 (e := ⟨[.slice C fixed.length e], true⟩)
  have f0 : rd (put (put (put G b4 ⟨[.int .i64 N.n, .slice A N.edges.length c], true⟩) b6 ⟨[.int .i64 own], true⟩) b7 ⟨[.slice C fixed.length e], true⟩) (some ⟨b4, 0, none⟩) = some (.int .i64 N.n) := by
    rw [rd_put_ne _ _ _ _ _ (fun x => q7.2.1 x.symm), rd_put_ne _ _ _ _ _ (fun x => q6.1 x.symm)]; exact rd_box _ _ _ 0 _ rfl
  have f1 : rd (put (put (put G b4 ⟨[.int .i64 N.n, .slice A N.edges.length c], true⟩) b6 ⟨[.int .i64 own], true⟩) b7 ⟨[.slice C fixed.length e], true⟩) (some ⟨b4, 1, none⟩) = some (.slice A N.edges.length c) := by
    rw [rd_put_ne _ _ _ _ _ (fun x => q7.2.1 x.symm), rd_put_ne _ _ _ _ _ (fun x => q6.1 x.symm)]; exact rd_box _ _ _ 1 _ rfl
  have f6 : rd (put (put (put G b4 ⟨[.int .i64 N.n, .slice A N.edges.length c], true⟩) b6 ⟨[.int .i64 own], true⟩) b7 ⟨[.slice C fixed.length e], true⟩) (some ⟨b6, 0, none⟩) = some (.int .i64 own) := by
    rw [rd_put_ne _ _ _ _ _ (fun x => q7.1 x.symm)]; exact rd_box _ _ _ 0 _ rfl
  have f7 : rd (put (put (put G b4 ⟨[.int .i64 N.n, .slice A N.edges.length c], true⟩) b6 ⟨[.int .i64 own], true⟩) b7 ⟨[.slice C fixed.length e], true⟩) (some ⟨b7, 0, none⟩) = some (.slice C fixed.length e) := rd_box _ _ _ 0 _ rfl
  simp (maxSteps := 300000) (disch := omega) only [gs, gs2, gs3, ↓reduceIte, Nat.reduceEqDiff, Nat.mul_one, Nat.add_zero, Nat.zero_add, Nat.zero_mul, Int.toNat_natCast, Int.reduceToNat, Nat.reduceMul, Nat.reduceAdd, decide_true, decide_false, Bool.not_true, Bool.not_false, true_and, and_true, List.map_cons, List.map_nil, List.nil_append, List.cons_append, List.append_nil, Option.map_some, Option.bind_some, List.getElem?_cons_zero, List.getElem?_cons_succ, Bool.false_eq_true, not_true_eq_false, not_false_eq_true, List.contains_cons, List.contains_nil, Nat.reduceBEq, Bool.true_or, Bool.false_or, Bool.or_true, List.set_cons_zero, List.set_cons_succ, List.length_cons, List.length_nil, isLd, Bool.true_and, Bool.false_and, Bool.and_true, Bool.and_false]
  revert s1 f0 f1 f6 f7
  generalize put (put (put G b4 ⟨[.int .i64 N.n, .slice A N.edges.length c], true⟩) b6 ⟨[.int .i64 own], true⟩) b7 ⟨[.slice C fixed.length e], true⟩ = G1
  intro s1 f0 f1 f6 f7
  refine impl_rest_ok (VecOk N) (avStep N.edges own 2000000 fixed) (fun x hx => avStep_ok hn hx ho fixed) (fun x hx => by have := hx.1; omega) hx (hf.sub s1) (fun G' A' c' x s hx' hPx K' hK' => ?_) ?_
  · simp (maxSteps := 300000) (disch := omega) only [gs, gs2, gs3, ↓reduceIte, Nat.reduceEqDiff, Nat.mul_one, Nat.add_zero, Nat.zero_add, Nat.zero_mul, Int.toNat_natCast, Int.reduceToNat, Nat.reduceMul, Nat.reduceAdd, decide_true, decide_false, Bool.not_true, Bool.not_false, true_and, and_true, List.map_cons, List.map_nil, List.nil_append, List.cons_append, List.append_nil, Option.map_some, Option.bind_some, List.getElem?_cons_zero, List.getElem?_cons_succ, Bool.false_eq_true, not_true_eq_false, not_false_eq_true, List.contains_cons, List.contains_nil, Nat.reduceBEq, Bool.true_or, Bool.false_or, Bool.or_true, List.set_cons_zero, List.set_cons_succ, List.length_cons, List.length_nil, isLd, Bool.true_and, Bool.false_and, Bool.and_true, Bool.and_false]
    refine c_impl_averageRest_fn1_i (by simp) ?_
    have f0' := rd_sub s f0
    have f1' := rd_sub s f1
    have f6' := rd_sub s f6
    have f7' := rd_sub s f7
    simp (maxSteps := 300000) (disch := omega) only [gs, gs2, gs3, ↓reduceIte, Nat.reduceEqDiff, Nat.mul_one, Nat.add_zero, Nat.zero_add, Nat.zero_mul, Int.toNat_natCast, Int.reduceToNat, Nat.reduceMul, Nat.reduceAdd, decide_true, decide_false, Bool.not_true, Bool.not_false, true_and, and_true, List.map_cons, List.map_nil, List.nil_append, List.cons_append, List.append_nil, Option.map_some, Option.bind_some, List.getElem?_cons_zero, List.getElem?_cons_succ, Bool.false_eq_true, not_true_eq_false, not_false_eq_true, List.contains_cons, List.contains_nil, Nat.reduceBEq, Bool.true_or, Bool.false_or, Bool.or_true, List.set_cons_zero, List.set_cons_succ, List.length_cons, List.length_nil, isLd, Bool.true_and, Bool.false_and, Bool.and_true, Bool.and_false, f0', f1', f6', f7']
    refine impl_averaged_ok (N := N) ((h.sub s1).sub s) hx' ((hg.sub s1).sub s) hl2 hn hPx ho fun G2 A2 c2 hN => ?_
    simp (maxSteps := 300000) (disch := omega) only [gs, gs2, gs3, ↓reduceIte, Nat.reduceEqDiff, Nat.mul_one, Nat.add_zero, Nat.zero_add, Nat.zero_mul, Int.toNat_natCast, Int.reduceToNat, Nat.reduceMul, Nat.reduceAdd, decide_true, decide_false, Bool.not_true, Bool.not_false, true_and, and_true, List.map_cons, List.map_nil, List.nil_append, List.cons_append, List.append_nil, Option.map_some, Option.bind_some, List.getElem?_cons_zero, List.getElem?_cons_succ, Bool.false_eq_true, not_true_eq_false, not_false_eq_true, List.contains_cons, List.contains_nil, Nat.reduceBEq, Bool.true_or, Bool.false_or, Bool.or_true, List.set_cons_zero, List.set_cons_succ, List.length_cons, List.length_nil, isLd, Bool.true_and, Bool.false_and, Bool.and_true, Bool.and_false]
    have := hK' _ _ _ (hN.cast rfl (avStep_len _ _ _ _ _).symm)
    rw [avStep_len] at this
    exact this
  · refine ⟨fun h0 G' A' c' hN => ?_, fun h0 => ?_⟩
    · simp (maxSteps := 300000) (disch := omega) only [gs, gs2, gs3, ↓reduceIte, Nat.reduceEqDiff, Nat.mul_one, Nat.add_zero, Nat.zero_add, Nat.zero_mul, Int.toNat_natCast, Int.reduceToNat, Nat.reduceMul, Nat.reduceAdd, decide_true, decide_false, Bool.not_true, Bool.not_false, true_and, and_true, List.map_cons, List.map_nil, List.nil_append, List.cons_append, List.append_nil, Option.map_some, Option.bind_some, List.getElem?_cons_zero, List.getElem?_cons_succ, Bool.false_eq_true, not_true_eq_false, not_false_eq_true, List.contains_cons, List.contains_nil, Nat.reduceBEq, Bool.true_or, Bool.false_or, Bool.or_true, List.set_cons_zero, List.set_cons_succ, List.length_cons, List.length_nil, isLd, Bool.true_and, Bool.false_and, Bool.and_true, Bool.and_false]
      obtain ⟨G'', s2, hN2⟩ := hN.low s1
      exact ⟨G'', s2, hk.1 h0 _ _ _ hN2⟩
    · simp (maxSteps := 300000) (disch := omega) only [gs, gs2, gs3, ↓reduceIte, Nat.reduceEqDiff, Nat.mul_one, Nat.add_zero, Nat.zero_add, Nat.zero_mul, Int.toNat_natCast, Int.reduceToNat, Nat.reduceMul, Nat.reduceAdd, decide_true, decide_false, Bool.not_true, Bool.not_false, true_and, and_true, List.map_cons, List.map_nil, List.nil_append, List.cons_append, List.append_nil, Option.map_some, Option.bind_some, List.getElem?_cons_zero, List.getElem?_cons_succ, Bool.false_eq_true, not_true_eq_false, not_false_eq_true, List.contains_cons, List.contains_nil, Nat.reduceBEq, Bool.true_or, Bool.false_or, Bool.or_true, List.set_cons_zero, List.set_cons_succ, List.length_cons, List.length_nil, isLd, Bool.true_and, Bool.false_and, Bool.and_true, Bool.and_false]
      exact ⟨G, s1, hk.2 h0⟩
noncomputable def restV (N : Gra) (xs : List Int) (own : Int) (fixed : List Int) : Int × List Int × Int := if stepC N xs own fixed ≠ 0 then (0, [], stepC N xs own fixed) else if (restF (avStep N.edges own 2000000 fixed) 1001 0 xs).1 < 0 then (0, [], 3) else ((restF (avStep N.edges own 2000000 fixed) 1001 0 xs).1, (restF (avStep N.edges own 2000000 fixed) 1001 0 xs).2, 0)
theorem rest_len (N : Gra) (xs : List Int) (own : Int) (fixed : List Int) (h : xs.length ≤ 2 ^ 20) : (restV N xs own fixed).2.1.length ≤ 2 ^ 20 := by
  unfold restV; split
  · simp
  · split
    · simp
    · exact restF_inv (P := fun x => x.length ≤ 2 ^ 20) (fun x hx => by rw [avStep_len]; exact hx) _ _ _ h
theorem impl_RoundsToRest_ok {G : GH} {N : Gra} {A B C : Option Addr} {c d e : Nat} {xs fixed : List Int} {own : Int} (h : T3S G A c N.edges) (hf : IntS G B d xs) (hg : IntS G C e fixed) (hl : N.edges.length < 2 ^ 40) (hl' : xs.length < 2 ^ 40) (hl2 : fixed.length < 2 ^ 40) {K : Value → GH → Prop}
    (hk : ILI (restV N xs own fixed) K G) : GC Try.prog 49 [graV N A c, .slice B xs.length d, .int .i64 own, .slice C fixed.length e] G K := by
  refine GC_drop (c_impl_RoundsToRest_i (by simp) ?_)
  unfold graV graC
  simp (maxSteps := 300000) (disch := omega) only [gs, gs2, gs3, ↓reduceIte, Nat.reduceEqDiff, Nat.mul_one, Nat.add_zero, Nat.zero_add, Nat.zero_mul, Int.toNat_natCast, Int.reduceToNat, Nat.reduceMul, Nat.reduceAdd, decide_true, decide_false, Bool.not_true, Bool.not_false, true_and, and_true, List.map_cons, List.map_nil, List.nil_append, List.cons_append, List.append_nil, Option.map_some, Option.bind_some, List.getElem?_cons_zero, List.getElem?_cons_succ, Bool.false_eq_true, not_true_eq_false, not_false_eq_true, List.contains_cons, List.contains_nil, Nat.reduceBEq, Bool.true_or, Bool.false_or, Bool.or_true, List.set_cons_zero, List.set_cons_succ, List.length_cons, List.length_nil, isLd, Bool.true_and, Bool.false_and, Bool.and_true, Bool.and_false]
  intro b2 hb2
  simp (maxSteps := 300000) (disch := omega) only [gs, gs2, gs3, ↓reduceIte, Nat.reduceEqDiff, Nat.mul_one, Nat.add_zero, Nat.zero_add, Nat.zero_mul, Int.toNat_natCast, Int.reduceToNat, Nat.reduceMul, Nat.reduceAdd, decide_true, decide_false, Bool.not_true, Bool.not_false, true_and, and_true, List.map_cons, List.map_nil, List.nil_append, List.cons_append, List.append_nil, Option.map_some, Option.bind_some, List.getElem?_cons_zero, List.getElem?_cons_succ, Bool.false_eq_true, not_true_eq_false, not_false_eq_true, List.contains_cons, List.contains_nil, Nat.reduceBEq, Bool.true_or, Bool.false_or, Bool.or_true, List.set_cons_zero, List.set_cons_succ, List.length_cons, List.length_nil, isLd, Bool.true_and, Bool.false_and, Bool.and_true, Bool.and_false]
  have s1 := Sub.put hb2 ⟨[.int .i64 N.n, .slice A N.edges.length c], true⟩
  have f0 : rd (put G b2 ⟨[.int .i64 N.n, .slice A N.edges.length c], true⟩) (some ⟨b2, 0, none⟩) = some (.int .i64 N.n) := rd_box _ _ _ 0 _ rfl
  have f1 : rd (put G b2 ⟨[.int .i64 N.n, .slice A N.edges.length c], true⟩) (some ⟨b2, 1, none⟩) = some (.slice A N.edges.length c) := rd_box _ _ _ 1 _ rfl
  revert s1 f0 f1
  generalize put G b2 ⟨[.int .i64 N.n, .slice A N.edges.length c], true⟩ = G1
  intro s1 f0 f1
  refine impl_stepped_ok (N := N) (h.sub s1) (hf.sub s1) (hg.sub s1) hl hl' hl2 ?_
  simp (maxSteps := 300000) (disch := omega) only [gs, gs2, gs3, ↓reduceIte, Nat.reduceEqDiff, Nat.mul_one, Nat.add_zero, Nat.zero_add, Nat.zero_mul, Int.toNat_natCast, Int.reduceToNat, Nat.reduceMul, Nat.reduceAdd, decide_true, decide_false, Bool.not_true, Bool.not_false, true_and, and_true, List.map_cons, List.map_nil, List.nil_append, List.cons_append, List.append_nil, Option.map_some, Option.bind_some, List.getElem?_cons_zero, List.getElem?_cons_succ, Bool.false_eq_true, not_true_eq_false, not_false_eq_true, List.contains_cons, List.contains_nil, Nat.reduceBEq, Bool.true_or, Bool.false_or, Bool.or_true, List.set_cons_zero, List.set_cons_succ, List.length_cons, List.length_nil, isLd, Bool.true_and, Bool.false_and, Bool.and_true, Bool.and_false]
  by_cases g0 : stepC N xs own fixed = 0
  · simp (maxSteps := 300000) (disch := omega) only [gs, gs2, gs3, ↓reduceIte, Nat.reduceEqDiff, Nat.mul_one, Nat.add_zero, Nat.zero_add, Nat.zero_mul, Int.toNat_natCast, Int.reduceToNat, Nat.reduceMul, Nat.reduceAdd, decide_true, decide_false, Bool.not_true, Bool.not_false, true_and, and_true, List.map_cons, List.map_nil, List.nil_append, List.cons_append, List.append_nil, Option.map_some, Option.bind_some, List.getElem?_cons_zero, List.getElem?_cons_succ, Bool.false_eq_true, not_true_eq_false, not_false_eq_true, List.contains_cons, List.contains_nil, Nat.reduceBEq, Bool.true_or, Bool.false_or, Bool.or_true, List.set_cons_zero, List.set_cons_succ, List.length_cons, List.length_nil, isLd, Bool.true_and, Bool.false_and, Bool.and_true, Bool.and_false, eq_true g0, f0, f1]
    obtain ⟨⟨hn, hx⟩, ho, hs⟩ := stepC_zero.1 g0
    have hV : restV N xs own fixed = if (restF (avStep N.edges own 2000000 fixed) 1001 0 xs).1 < 0 then (0, [], 3) else ((restF (avStep N.edges own 2000000 fixed) 1001 0 xs).1, (restF (avStep N.edges own 2000000 fixed) 1001 0 xs).2, 0) := by unfold restV; rw [if_neg (by simp [g0])]
    have hrg := restF_range (avStep N.edges own 2000000 fixed) 1001 0 xs
    refine impl_averageRest_ok (N := N) (h.sub s1) (hf.sub s1) (hg.sub s1) hl2 hn hx ho ⟨fun h0 G' A' c' hN => ?_, fun h0 => ?_⟩
    · simp (maxSteps := 300000) (disch := omega) only [gs, gs2, gs3, ↓reduceIte, Nat.reduceEqDiff, Nat.mul_one, Nat.add_zero, Nat.zero_add, Nat.zero_mul, Int.toNat_natCast, Int.reduceToNat, Nat.reduceMul, Nat.reduceAdd, decide_true, decide_false, Bool.not_true, Bool.not_false, true_and, and_true, List.map_cons, List.map_nil, List.nil_append, List.cons_append, List.append_nil, Option.map_some, Option.bind_some, List.getElem?_cons_zero, List.getElem?_cons_succ, Bool.false_eq_true, not_true_eq_false, not_false_eq_true, List.contains_cons, List.contains_nil, Nat.reduceBEq, Bool.true_or, Bool.false_or, Bool.or_true, List.set_cons_zero, List.set_cons_succ, List.length_cons, List.length_nil, isLd, Bool.true_and, Bool.false_and, Bool.and_true, Bool.and_false, show (restF (avStep N.edges own 2000000 fixed) 1001 0 xs).1 < 0 ↔ False from ⟨fun x => by omega, False.elim⟩]
      rw [hV, if_neg (by omega)] at hk
      obtain ⟨G'', s2, hN2⟩ := hN.low s1
      exact ⟨G'', s2, hk _ _ _ hN2⟩
    · simp (maxSteps := 300000) (disch := omega) only [gs, gs2, gs3, ↓reduceIte, Nat.reduceEqDiff, Nat.mul_one, Nat.add_zero, Nat.zero_add, Nat.zero_mul, Int.toNat_natCast, Int.reduceToNat, Nat.reduceMul, Nat.reduceAdd, decide_true, decide_false, Bool.not_true, Bool.not_false, true_and, and_true, List.map_cons, List.map_nil, List.nil_append, List.cons_append, List.append_nil, Option.map_some, Option.bind_some, List.getElem?_cons_zero, List.getElem?_cons_succ, Bool.false_eq_true, not_true_eq_false, not_false_eq_true, List.contains_cons, List.contains_nil, Nat.reduceBEq, Bool.true_or, Bool.false_or, Bool.or_true, List.set_cons_zero, List.set_cons_succ, List.length_cons, List.length_nil, isLd, Bool.true_and, Bool.false_and, Bool.and_true, Bool.and_false, show ((-1 : Int) < 0) = True from eq_true (by omega)]
      exact ⟨G, s1, hk.err (by rw [hV, if_pos (by omega)])⟩
  · simp (maxSteps := 300000) (disch := omega) only [gs, gs2, gs3, ↓reduceIte, Nat.reduceEqDiff, Nat.mul_one, Nat.add_zero, Nat.zero_add, Nat.zero_mul, Int.toNat_natCast, Int.reduceToNat, Nat.reduceMul, Nat.reduceAdd, decide_true, decide_false, Bool.not_true, Bool.not_false, true_and, and_true, List.map_cons, List.map_nil, List.nil_append, List.cons_append, List.append_nil, Option.map_some, Option.bind_some, List.getElem?_cons_zero, List.getElem?_cons_succ, Bool.false_eq_true, not_true_eq_false, not_false_eq_true, List.contains_cons, List.contains_nil, Nat.reduceBEq, Bool.true_or, Bool.false_or, Bool.or_true, List.set_cons_zero, List.set_cons_succ, List.length_cons, List.length_nil, isLd, Bool.true_and, Bool.false_and, Bool.and_true, Bool.and_false, eq_false g0]
    exact ⟨G, s1, hk.err (by unfold restV; rw [if_pos g0])⟩
/-- rising lists of some numbers from lo on, below n, in order. -/
def chs (n : Nat) : Nat → Nat → List (List Int)
  | 0, _ => [[]]
  | m + 1, lo => (List.range' lo (n - lo)).flatMap fun i => (chs n m (i + 1)).map fun t => (i : Int) :: t
def rng (lo m : Nat) : List Int := (List.range' lo m).map fun i : Nat => (i : Int)
theorem rng_succ (lo m : Nat) : rng lo (m + 1) = (lo : Int) :: rng (lo + 1) m := by simp [rng, List.range'_succ]
theorem rng_len (lo m : Nat) : (rng lo m).length = m := by simp [rng]
theorem chs_step {n lo : Nat} (m : Nat) (h : lo < n) : chs n (m + 1) lo = ((chs n m (lo + 1)).map fun t => (lo : Int) :: t) ++ chs n (m + 1) (lo + 1) := by
  obtain ⟨c, hc⟩ : ∃ c, n - lo = c + 1 := ⟨n - lo - 1, by omega⟩
  rw [chs, chs, hc, List.range'_succ, List.flatMap_cons, show n - (lo + 1) = c by omega]
theorem chs_end {n lo : Nat} (m : Nat) (h : n ≤ lo) : chs n (m + 1) lo = [] := by
  rw [chs, show n - lo = 0 by omega]; rfl
/-- the list that follows. -/
def nxt (n : Nat) : List Int → Option (List Int)
  | [] => none
  | a :: t => match nxt n t with
    | some t' => some (a :: t')
    | none => if a + 1 + (t.length + 1) ≤ (n : Int) then some (rng (a.toNat + 1) (t.length + 1)) else none
theorem nxt_none {n : Nat} : ∀ {t : List Int}, (∀ j, j < t.length → ¬ t.getD j 0 + 1 + (t.length - j) ≤ (n : Int)) → nxt n t = none
  | [], _ => rfl
  | a :: t, h => by
    have ih := nxt_none (n := n) (t := t) fun j hj => by
      have := h (j + 1) (by simp; omega)
      simp only [List.getD_cons_succ, List.length_cons] at this
      omega
    have h0 := h 0 (by simp)
    simp only [List.getD_cons_zero, List.length_cons] at h0
    simp only [nxt, ih]
    rw [if_neg (by omega)]
theorem nxt_some {n : Nat} : ∀ {t : List Int} {i : Nat}, i < t.length → t.getD i 0 + 1 + (t.length - i) ≤ (n : Int) → (∀ j, i < j → j < t.length → ¬ t.getD j 0 + 1 + (t.length - j) ≤ (n : Int)) → nxt n t = some (t.take i ++ rng ((t.getD i 0).toNat + 1) (t.length - i))
  | [], i, hi, _, _ => by simp at hi
  | a :: t, 0, hi, h1, h2 => by
    have e := nxt_none (n := n) (t := t) fun j hj => by
      have := h2 (j + 1) (by omega) (by simp; omega)
      simp only [List.getD_cons_succ, List.length_cons] at this
      omega
    simp only [List.getD_cons_zero, List.length_cons] at h1
    simp only [nxt, e]
    rw [if_pos (by omega)]; rfl
  | a :: t, i + 1, hi, h1, h2 => by
    simp only [List.getD_cons_succ, List.length_cons] at h1 hi
    have e := nxt_some (n := n) (t := t) (i := i) (by omega) (by omega) fun j hj hj2 => by
      have := h2 (j + 1) (by omega) (by simp; omega)
      simp only [List.getD_cons_succ, List.length_cons] at this
      omega
    simp only [nxt, e]
    simp [List.getD_cons_succ]
/-- each follows the one before; e follows the last. -/
def Ch (n : Nat) : List (List Int) → Option (List Int) → Prop
  | [], _ => True
  | [a], e => nxt n a = e
  | a :: b :: r, e => nxt n a = some b ∧ Ch n (b :: r) e
theorem Ch_app {n : Nat} {B : List (List Int)} {e e' : Option (List Int)} (hB : Ch n B e') (h0 : B = [] → e = e') (h1 : ∀ b r, B = b :: r → e = some b) : ∀ A, Ch n A e → Ch n (A ++ B) e'
  | [], _ => hB
  | [a], h => by
    cases B with
    | nil => have := h0 rfl; subst this; exact h
    | cons b r => exact ⟨by rw [← h1 b r rfl]; exact h, hB⟩
  | a :: b :: r, h => ⟨h.1, Ch_app hB h0 h1 (b :: r) h.2⟩
theorem Ch_map {n i m : Nat} : ∀ A, (∀ t ∈ A, t.length = m) → Ch n A none → Ch n (A.map fun t => (i : Int) :: t) (if (i : Int) + 1 + (m + 1) ≤ n then some (rng (i + 1) (m + 1)) else none)
  | [], _, _ => trivial
  | [a], hl, h => by
    have : nxt n a = none := h
    show nxt n ((i : Int) :: a) = _
    simp only [nxt, this, hl a (by simp), Int.toNat_natCast]
  | a :: b :: r, hl, h => ⟨by simp only [nxt, h.1], Ch_map (b :: r) (fun t ht => hl t (List.mem_cons_of_mem _ ht)) h.2⟩
theorem chs_len (n : Nat) : ∀ m lo, ∀ t ∈ chs n m lo, t.length = m
  | 0, _, t, h => by simp [chs] at h; simp [h]
  | m + 1, lo, t, h => by
    simp only [chs, List.mem_flatMap, List.mem_map] at h
    obtain ⟨i, _, t', h', rfl⟩ := h
    simp [chs_len n m (i + 1) t' h']
theorem chs_mem (n : Nat) : ∀ m lo, ∀ t ∈ chs n m lo, ∀ x ∈ t, (lo : Int) ≤ x ∧ x < n
  | 0, _, t, h, x, hx => by simp [chs] at h; subst h; simp at hx
  | m + 1, lo, t, h, x, hx => by
    simp only [chs, List.mem_flatMap, List.mem_map, List.mem_range'_1] at h
    obtain ⟨i, hi, t', h', rfl⟩ := h
    rcases List.mem_cons.1 hx with rfl | hx
    · omega
    · have := chs_mem n m (i + 1) t' h' x hx
      omega
theorem chs_main (n : Nat) : ∀ m c lo, n - lo = c → lo ≤ n → (lo + m ≤ n → ∃ r, chs n m lo = rng lo m :: r) ∧ (n < lo + m → 0 < m → chs n m lo = []) ∧ Ch n (chs n m lo) none
  | 0, _, lo, _, _ => ⟨fun _ => ⟨[], rfl⟩, fun _ h => by omega, rfl⟩
  | m + 1, 0, lo, hc, hlo => by
    rw [chs_end m (by omega)]
    exact ⟨fun _ => by omega, fun _ _ => rfl, trivial⟩
  | m + 1, c + 1, lo, hc, hlo => by
    obtain ⟨a1, a2, a3⟩ := chs_main n m c (lo + 1) (by omega) (by omega)
    obtain ⟨b1, b2, b3⟩ := chs_main n (m + 1) c (lo + 1) (by omega) (by omega)
    rw [chs_step m (by omega)]
    refine ⟨fun h => ?_, fun h _ => ?_, ?_⟩
    · obtain ⟨r, hr⟩ := a1 (by omega)
      rw [hr, rng_succ]
      exact ⟨_, rfl⟩
    · rw [b2 (by omega) (by omega)]
      by_cases hm : m = 0
      · omega
      · rw [a2 (by omega) (by omega)]; rfl
    · refine Ch_app b3 (fun hB => ?_) (fun b r hB => ?_) _ (Ch_map _ (chs_len n m (lo + 1)) a3)
      · by_cases h : (lo : Int) + 1 + (m + 1) ≤ n
        · obtain ⟨r, hr⟩ := b1 (by omega)
          rw [hr] at hB; cases hB
        · rw [if_neg h]
      · by_cases h : (lo : Int) + 1 + (m + 1) ≤ n
        · obtain ⟨r', hr⟩ := b1 (by omega)
          rw [hr] at hB; cases hB
          rw [if_pos h]
        · rw [b2 (by omega) (by omega)] at hB; cases hB
theorem chs_ch (n m : Nat) : Ch n (chs n m 0) none := (chs_main n m n 0 (by omega) (by omega)).2.2
theorem chs_head {n m : Nat} (h : m ≤ n) : ∃ r, chs n m 0 = rng 0 m :: r := (chs_main n m n 0 (by omega) (by omega)).1 (by omega)
/-- the list of all nodes is the only one of its length. -/
theorem chs_full (n : Nat) : ∀ m lo, lo + m = n → chs n m lo = [rng lo m]
  | 0, _, _ => rfl
  | m + 1, lo, h => by
    rw [chs_step m (by omega), chs_full n m (lo + 1) (by omega), (chs_main n (m + 1) _ (lo + 1) rfl (by omega)).2.1 (by omega) (by omega), rng_succ]; rfl
/-- a search with a budget: the first list that wins, the lists tried, and whether the budget ended. -/
def seek (W : List Int → Bool) (bud : Nat) : List (List Int) → Nat → Option (List Int) × Nat × Bool
  | [], k => (none, k, false)
  | s :: L, k => if k = bud then (none, k, true) else if W s = true then (some s, k + 1, false) else seek W bud L (k + 1)
theorem seek_cons (W : List Int → Bool) (bud : Nat) (s : List Int) (L : List (List Int)) (k : Nat) : seek W bud (s :: L) k = if k = bud then (none, k, true) else if W s = true then (some s, k + 1, false) else seek W bud L (k + 1) := rfl
/-- a list that is found is one of those tried, and wins. -/
theorem seek_found {W : List Int → Bool} {bud : Nat} {s : List Int} {k' : Nat} {f : Bool} : ∀ {L : List (List Int)} {k : Nat}, seek W bud L k = (some s, k', f) → s ∈ L ∧ W s = true ∧ f = false
  | [], k, h => by cases h
  | t :: L, k, h => by
    rw [seek_cons] at h
    split at h
    · cases h
    · split at h
      · rename_i h1; cases h; exact ⟨List.mem_cons_self, h1, rfl⟩
      · have := seek_found h; exact ⟨List.mem_cons_of_mem _ this.1, this.2⟩
/-- nothing is found and the budget is left: no list wins. -/
theorem seek_all {W : List Int → Bool} {bud : Nat} {k' : Nat} : ∀ {L : List (List Int)} {k : Nat}, seek W bud L k = (none, k', false) → ∀ s ∈ L, W s = false
  | [], k, h, s, hs => by simp at hs
  | t :: L, k, h, s, hs => by
    rw [seek_cons] at h
    split at h
    · cases h
    · split at h
      · cases h
      · rename_i h1
        rcases List.mem_cons.1 hs with rfl | hs
        · simpa using h1
        · exact seek_all h s hs
/-- all lists from some size on. -/
def allFrom (n m : Nat) : List (List Int) := (List.range' m (n + 1 - m)).flatMap fun j => chs n j 0
theorem allFrom_step {n m : Nat} (h : m ≤ n) : allFrom n m = chs n m 0 ++ allFrom n (m + 1) := by
  unfold allFrom
  rw [show n + 1 - m = (n + 1 - (m + 1)) + 1 by omega, List.range'_succ, List.flatMap_cons]
theorem allFrom_end {n m : Nat} (h : n < m) : allFrom n m = [] := by
  unfold allFrom; rw [show n + 1 - m = 0 by omega]; rfl
/-- some places of a list get a value. -/
def setAll (value : Int) (s xs : List Int) : List Int := s.foldl (fun x i => x.set i.toNat value) xs
theorem setAll_snoc (value : Int) (s xs : List Int) (i : Int) : setAll value (s ++ [i]) xs = (setAll value s xs).set i.toNat value := by simp [setAll]
theorem setAll_len (value : Int) : ∀ (s xs : List Int), (setAll value s xs).length = xs.length
  | [], _ => rfl
  | i :: s, xs => by
    have := setAll_len value s (xs.set i.toNat value)
    simpa [setAll] using this
theorem setAll_ok {N : Gra} {value : Int} (hv : -1000000 ≤ value ∧ value ≤ 1000000) : ∀ (s xs : List Int), VecOk N xs → VecOk N (setAll value s xs)
  | [], _, h => h
  | i :: s, xs, h => setAll_ok hv s (xs.set i.toNat value) ⟨by rw [List.length_set]; exact h.1, inB_mem.2 fun x hx => by
    rcases List.mem_or_eq_of_mem_set hx with h' | h'
    · exact inB_mem.1 h.2 x h'
    · subst h'; exact hv⟩
theorem setAll_get (value : Int) (j : Nat) : ∀ (s xs : List Int), (∀ x ∈ s, 0 ≤ x) → j < xs.length → (setAll value s xs).getD j 0 = if (j : Int) ∈ s then value else xs.getD j 0
  | [], xs, _, _ => by simp [setAll]
  | i :: s, xs, h, hj => by
    have hi := h i (by simp)
    have ih := setAll_get value j s (xs.set i.toNat value) (fun x hx => h x (List.mem_cons_of_mem _ hx)) (by simpa using hj)
    have e : setAll value (i :: s) xs = setAll value s (xs.set i.toNat value) := rfl
    rw [e, ih]
    by_cases h1 : (j : Int) ∈ s
    · rw [if_pos h1, if_pos (List.mem_cons_of_mem _ h1)]
    · rw [if_neg h1]
      by_cases h2 : (j : Int) = i
      · rw [if_pos (by rw [h2]; exact List.mem_cons_self)]
        have : i.toNat = j := by omega
        subst this
        simp [List.getD, hj]
      · rw [if_neg (by simp [h1, h2])]
        have : i.toNat ≠ j := by omega
        simp [List.getD, List.getElem?_set, this]
/-- a set leads all to a value. -/
noncomputable def leadB (N : Gra) (own value : Int) (xs s : List Int) : Bool := decide (0 ≤ (restF (avStep N.edges own 2000000 s) 1001 0 (setAll value s xs)).1) && (restF (avStep N.edges own 2000000 s) 1001 0 (setAll value s xs)).2.all (· == value)
theorem ext_getD {a b : List Int} (hl : a.length = b.length) (h : ∀ i, i < a.length → a.getD i 0 = b.getD i 0) : a = b := by
  apply List.ext_getElem hl
  intro i h1 h2
  have := h i h1
  simpa [List.getD, h1, h2] using this
theorem rng_mem (n : Nat) (x : Int) : x ∈ rng 0 n ↔ 0 ≤ x ∧ x < n := by
  simp only [rng, List.mem_map, List.mem_range'_1]
  constructor
  · rintro ⟨a, h, rfl⟩; omega
  · intro h; exact ⟨x.toNat, by omega, by omega⟩
/-- all nodes together lead to the value. -/
theorem lead_full (N : Gra) (own value : Int) (xs : List Int) : leadB N own value xs (rng 0 xs.length) = true := by
  have hl := setAll_len value (rng 0 xs.length) xs
  have hst : avStep N.edges own 2000000 (rng 0 xs.length) (setAll value (rng 0 xs.length) xs) = setAll value (rng 0 xs.length) xs := by
    refine ext_getD (avStep_len _ _ _ _ _) fun i hi => ?_
    rw [avStep_len] at hi
    rw [avStep_get _ _ _ _ _ _ hi]
    unfold avF
    rw [if_neg (by rw [rng_mem]; omega)]
    unfold xg; rw [Int.toNat_natCast]
  have hr : restF (avStep N.edges own 2000000 (rng 0 xs.length)) 1001 0 (setAll value (rng 0 xs.length) xs) = (0, setAll value (rng 0 xs.length) xs) := by
    rw [restF_succ, if_pos hst]
  unfold leadB
  rw [hr]
  simp only [Int.le_refl, decide_true, Bool.true_and, List.all_eq_true, beq_iff_eq]
  intro x hx
  obtain ⟨i, hi, rfl⟩ := List.mem_iff_getElem.1 hx
  have := setAll_get value i (rng 0 xs.length) xs (fun x hx => ((rng_mem _ _).1 hx).1) (by omega)
  rw [if_pos ((rng_mem _ _).2 (by omega))] at this
  simpa [List.getD, hi] using this
theorem New.boxed {G G' : GH} {A : Option Addr} {c sz n b : Nat} {cs : List Value} (h : New G G' A c cs sz n) (hb : G' b = none) (e : Ent) : New (put G b e) (put G' b e) A c cs sz n := by
  rcases h with ⟨h1, h2, h3, h4, rfl⟩ | ⟨b', r, h1, h2, rfl, h3⟩
  · exact .inl ⟨h1, h2, h3, h4, rfl⟩
  · have q := put_none.1 hb
    exact .inr ⟨b', r, h1, by rw [put_ne _ _ q.1.symm]; exact h2, by rw [put_comm _ _ _ q.1.symm], h3⟩
theorem Own.put {G : GH} {A : Option Addr} {c sz n b : Nat} {cs : List Value} (h : Own G A c cs sz n) (hne : ∀ a, A = some a → a.block ≠ b) (e : Ent) : Own (Gh.put G b e) A c cs sz n := by
  rcases h with h | ⟨b', r, h1, h2, h3⟩
  · exact .inl h
  · exact .inr ⟨b', r, h1, by rw [put_ne _ _ (hne _ h1)]; exact h2, h3⟩
/-- a box under the ground is forgotten. -/
theorem New.unbox {G Gc : GH} {b1 bF : Nat} {e1 e : Ent} {A : Option Addr} {c sz n : Nat} {cs : List Value} (hb : G b1 = none) (hF : G bF = none) (h : New (put (put G b1 e1) bF e) Gc A c cs sz n) (hne : bF ≠ b1) :
    ∃ G'', Sub G'' Gc ∧ New (put G bF e) G'' A c cs sz n := by
  rcases h with ⟨h1, h2, h3, h4, rfl⟩ | ⟨b, r, h1, h2, rfl, h3⟩
  · exact ⟨_, Sub.both (Sub.put hb _), .inl ⟨h1, h2, h3, h4, rfl⟩⟩
  · have n1 : b ≠ bF := fun x => by rw [x, put_same] at h2; cases h2
    have n2 : b ≠ b1 := fun x => by rw [put_ne _ _ n1, x, put_same] at h2; cases h2
    exact ⟨_, Sub.both (Sub.both (Sub.put hb _)), .inr ⟨b, r, h1, by rw [put_ne _ _ n1] at h2 ⊢; rwa [put_ne _ _ n2] at h2, rfl, h3⟩⟩
/-- what can still be sent. -/
def left (es : List T3) (t : Int) (fl : List Int) : Nat := (24000000 - exc es fl t es.length).toNat
/-- neighbours change places. -/
def sw (ys : List Int) (j : Nat) : List Int := (ys.set j (ys.getD (j - 1) 0)).set (j - 1) (ys.getD j 0)
def del (G : GH) (b : Nat) : GH := fun x => if x = b then none else G x
theorem del_none (G : GH) (b : Nat) : del G b b = none := if_pos rfl
theorem Sub.del (G : GH) (b : Nat) : Sub (Gh.del G b) G := fun x e h => by
  unfold Gh.del at h; split at h
  · cases h
  · exact h
theorem Sub.in_del {K G : GH} {b : Nat} (s : Sub K G) (h : K b = Option.none) : Sub K (Gh.del G b) := fun x e hx => by
  have hxb : x ≠ b := fun e' => by rw [e', h] at hx; cases hx
  unfold Gh.del; rw [if_neg hxb]; exact s x e hx
theorem del_ne (G : GH) {b x : Nat} (h : x ≠ b) : del G b x = G x := if_neg h
theorem restF_fix {step : List Int → List Int} : ∀ (f : Nat) (k : Int) (x : List Int), 0 ≤ (restF step f k x).1 → step (restF step f k x).2 = (restF step f k x).2
  | 0, k, x, h => by exact absurd h (by show ¬ (0 : Int) ≤ -1; omega)
  | f + 1, k, x, h => by
    rw [restF_succ] at h ⊢
    split
    · rename_i e; exact e
    · rename_i e; rw [if_neg e] at h; exact restF_fix f (k + 1) _ h
theorem mul_in {w s lo hi : Int} (hw : 0 ≤ w) (h : lo ≤ s ∧ s ≤ hi) : lo * w ≤ w * s ∧ w * s ≤ hi * w := by
  have h1 := Int.mul_le_mul_of_nonneg_left h.1 hw
  have h2 := Int.mul_le_mul_of_nonneg_left h.2 hw
  rw [Int.mul_comm w lo] at h1
  rw [Int.mul_comm w hi] at h2
  exact ⟨h1, h2⟩
/-- means lie between the least and the greatest. -/
theorem av_in {N : Gra} {x : List Int} (hn : GraOk N) {lo hi : Int} (hx : ∀ v : Int, 0 ≤ v → v < N.n → lo ≤ xg x v ∧ xg x v ≤ hi) {own lim : Int} (ho : 0 ≤ own) : ∀ k : Nat, k ≤ N.edges.length → ∀ v : Int, 0 ≤ v → v < N.n →
    (lo * avW N.edges x own lim k v ≤ avS N.edges x own lim k v ∧ avS N.edges x own lim k v ≤ hi * avW N.edges x own lim k v)
  | 0, _, v, h0, h1 => mul_in ho (hx v h0 h1)
  | k + 1, hk, v, h0, h1 => by
    have ih := av_in hn hx ho (lim := lim) k (by omega)
    obtain ⟨o1, o2, o3, o4⟩ := hn.2.1 k (by omega)
    have m1 := mul_in (by omega : 0 ≤ (N.edges.getD k z3).2.2) (hx (N.edges.getD k z3).1 (by omega) (by omega))
    have m2 := mul_in (by omega : 0 ≤ (N.edges.getD k z3).2.2) (hx (N.edges.getD k z3).2.1 (by omega) (by omega))
    have ihv := ih v h0 h1
    unfold avS avW
    split
    · generalize N.edges.getD k z3 = E at *
      unfold addAt
      by_cases c1 : v = E.2.1
      · by_cases c2 : v = E.1
        · omega
        · simp only [if_pos c1, if_neg c2]
          rw [Int.mul_add, Int.mul_add]; omega
      · by_cases c2 : v = E.1
        · simp only [if_neg c1, if_pos c2]
          rw [Int.mul_add, Int.mul_add]; omega
        · simp only [if_neg c1, if_neg c2]; exact ihv
    · exact ihv
theorem nearI_mid {a b lo hi : Int} (hb : 0 < b) (h : lo * b ≤ a ∧ a ≤ hi * b) : lo ≤ nearI a b ∧ nearI a b ≤ hi := by
  have key : ∀ c l u : Int, l * b ≤ c → c ≤ u * b → l ≤ (2 * c + b) / (2 * b) ∧ (2 * c + b) / (2 * b) ≤ u := fun c l u h0 h1 => by
    have e1 : l * (2 * b) = 2 * (l * b) := by rw [← Int.mul_assoc, Int.mul_comm l 2, Int.mul_assoc]
    have e2 : (u + 1) * (2 * b) = 2 * (u * b) + 2 * b := by rw [Int.add_mul, Int.one_mul, ← Int.mul_assoc, Int.mul_comm u 2, Int.mul_assoc]
    refine ⟨(Int.le_ediv_iff_mul_le (by omega)).2 (by omega), ?_⟩
    have : (2 * c + b) / (2 * b) < u + 1 := Int.ediv_lt_of_lt_mul (by omega) (by omega)
    omega
  unfold nearI
  split
  · have := key (-a) (-hi) (-lo) (by rw [Int.neg_mul]; omega) (by rw [Int.neg_mul]; omega); omega
  · exact key a lo hi h.1 h.2
theorem avF_mid {N : Gra} {x : List Int} (hn : GraOk N) {lo hi : Int} (hx : ∀ v : Int, 0 ≤ v → v < N.n → lo ≤ xg x v ∧ xg x v ≤ hi) {own lim : Int} (ho : 0 ≤ own) (fixed : List Int) {v : Int} (h0 : 0 ≤ v) (h1 : v < N.n) : lo ≤ avF N.edges x own lim fixed v ∧ avF N.edges x own lim fixed v ≤ hi := by
  have := av_in hn hx ho (lim := lim) _ (Nat.le_refl _) v h0 h1
  unfold avF
  split
  · rename_i h
    exact nearI_mid h.1 this
  · exact hx v h0 h1
theorem maxL_ge : ∀ (xs : List Int) (m : Int), m ≤ maxL m xs ∧ ∀ x ∈ xs, x ≤ maxL m xs
  | [], m => ⟨Int.le_refl _, fun x hx => by simp at hx⟩
  | a :: r, m => by
    have ih := maxL_ge r (max m a)
    have e : maxL m (a :: r) = maxL (max m a) r := rfl
    rw [e]
    refine ⟨by omega, fun x hx => ?_⟩
    rcases List.mem_cons.1 hx with rfl | hx
    · omega
    · exact ih.2 x hx
theorem minL_le : ∀ (xs : List Int) (m : Int), minL m xs ≤ m ∧ ∀ x ∈ xs, minL m xs ≤ x
  | [], m => ⟨Int.le_refl _, fun x hx => by simp at hx⟩
  | a :: r, m => by
    have ih := minL_le r (min m a)
    have e : minL m (a :: r) = minL (min m a) r := rfl
    rw [e]
    refine ⟨by omega, fun x hx => ?_⟩
    rcases List.mem_cons.1 hx with rfl | hx
    · omega
    · exact ih.2 x hx
theorem maxL_le : ∀ (xs : List Int) (m M : Int), m ≤ M → (∀ x ∈ xs, x ≤ M) → maxL m xs ≤ M
  | [], m, M, h, _ => h
  | a :: r, m, M, h, hx => maxL_le r (max m a) M (by have := hx a (by simp); omega) fun x h' => hx x (List.mem_cons_of_mem _ h')
theorem minL_ge : ∀ (xs : List Int) (m M : Int), M ≤ m → (∀ x ∈ xs, M ≤ x) → M ≤ minL m xs
  | [], m, M, h, _ => h
  | a :: r, m, M, h, hx => minL_ge r (min m a) M (by have := hx a (by simp); omega) fun x h' => hx x (List.mem_cons_of_mem _ h')
theorem spread_ok {N : Gra} {x : List Int} (hn : GraOk N) (hx : VecOk N x) : spreadR x = (maxL (-1000000) x - minL 1000000 x, 0) := by
  have h1 := hn.1
  have h2 := hx.1
  unfold spreadR
  rw [if_neg, if_neg (by omega)]
  rintro (h | h)
  · omega
  · simp only [List.any_eq_true] at h
    obtain ⟨y, hy, h⟩ := h
    have := inB_mem.1 hx.2 y hy
    simp at h
    omega
/-- a step never spreads opinions. -/
theorem spread_step {N : Gra} {x : List Int} (hn : GraOk N) (hx : VecOk N x) {own : Int} (ho : 0 ≤ own ∧ own ≤ 1000) (fixed : List Int) : (spreadR (avStep N.edges own 2000000 fixed x)).1 ≤ (spreadR x).1 := by
  have h1 := hn.1
  have h2 := hx.1
  rw [spread_ok hn hx, spread_ok hn (avStep_ok hn hx ho fixed)]
  have hm := (maxL_ge x (-1000000)).2
  have hl := (minL_le x 1000000).2
  have hin : ∀ v : Int, 0 ≤ v → v < N.n → minL 1000000 x ≤ xg x v ∧ xg x v ≤ maxL (-1000000) x := fun v h0 h3 => by
    have hv : v.toNat < x.length := by omega
    have hmem : xg x v ∈ x := by unfold xg; simp [List.getD, hv]
    exact ⟨hl _ hmem, hm _ hmem⟩
  have hall : ∀ y ∈ avStep N.edges own 2000000 fixed x, minL 1000000 x ≤ y ∧ y ≤ maxL (-1000000) x := fun y hy => by
    simp only [avStep, List.mem_map, List.mem_range] at hy
    obtain ⟨v, hv, rfl⟩ := hy
    exact avF_mid hn hin ho.1 fixed (by omega) (by omega)
  have a1 := maxL_le (avStep N.edges own 2000000 fixed x) (-1000000) (maxL (-1000000) x) (maxL_ge x (-1000000)).1 (fun y hy => (hall y hy).2)
  have a2 := minL_ge (avStep N.edges own 2000000 fixed x) 1000000 (minL 1000000 x) (minL_le x 1000000).1 (fun y hy => (hall y hy).1)
  dsimp only
  omega
/-- opinions that are fixed stay. -/
theorem step_fixed {es : List T3} {own : Int} {fixed x : List Int} {v : Int} (hv : v ∈ fixed) (h0 : 0 ≤ v) (h1 : v.toNat < x.length) : (avStep es own 2000000 fixed x).getD v.toNat 0 = x.getD v.toNat 0 := by
  rw [avStep_get _ _ _ _ _ _ h1]
  unfold avF
  rw [if_neg (by rw [Int.toNat_of_nonneg h0]; exact fun h => h.2 hv)]
  unfold xg; rw [Int.toNat_natCast]
/-- rest is reached by as many steps. -/
theorem restF_run {step : List Int → List Int} : ∀ (f j : Nat) (x : List Int), 0 ≤ (restF step f j (runF step j x)).1 → (restF step f j (runF step j x)).2 = runF step (restF step f j (runF step j x)).1.toNat x
  | 0, j, x, h => by exact absurd h (by show ¬ (0 : Int) ≤ -1; omega)
  | f + 1, j, x, h => by
    rw [restF_succ] at h ⊢
    split
    · simp
    · rename_i e
      rw [if_neg e] at h
      exact restF_run f (j + 1) x h
theorem rest_zero {N : Gra} {x : List Int} {own : Int} {fixed : List Int} (h : (restV N x own fixed).2.2 = 0) : stepC N x own fixed = 0 ∧ stepC N (restV N x own fixed).2.1 own fixed = 0 ∧ runV N (restV N x own fixed).2.1 own fixed 1 = ((restV N x own fixed).2.1, 0) ∧ runV N x own fixed (restV N x own fixed).1 = ((restV N x own fixed).2.1, 0) := by
  by_cases g0 : stepC N x own fixed = 0
  · obtain ⟨⟨hn, hx⟩, ho, hs⟩ := stepC_zero.1 g0
    have e : restV N x own fixed = if (restF (avStep N.edges own 2000000 fixed) 1001 0 x).1 < 0 then (0, [], 3) else ((restF (avStep N.edges own 2000000 fixed) 1001 0 x).1, (restF (avStep N.edges own 2000000 fixed) 1001 0 x).2, 0) := by unfold restV; rw [if_neg (by simp [g0])]
    by_cases hneg : (restF (avStep N.edges own 2000000 fixed) 1001 0 x).1 < 0
    · rw [e, if_pos hneg] at h; exact absurd h (by decide)
    · rw [e, if_neg hneg]
      have hr := restF_range (avStep N.edges own 2000000 fixed) 1001 0 x
      have hv := restF_inv (step := avStep N.edges own 2000000 fixed) (P := VecOk N) (fun y hy => avStep_ok hn hy ho fixed) 1001 0 x hx
      have hst := stepC_zero.2 ⟨⟨hn, hv⟩, ho, hs⟩
      have hfix := restF_fix (step := avStep N.edges own 2000000 fixed) 1001 0 x (by omega)
      have hrun := restF_run (step := avStep N.edges own 2000000 fixed) 1001 0 x (by show 0 ≤ (restF _ 1001 0 x).1; omega)
      refine ⟨g0, hst, ?_, ?_⟩
      · unfold runV; rw [if_neg (by simp [hst]), if_pos (by omega)]
        show (avStep N.edges own 2000000 fixed (restF (avStep N.edges own 2000000 fixed) 1001 0 x).2, (0 : Int)) = _
        rw [hfix]
      · unfold runV; rw [if_neg (by simp [g0]), if_pos (by dsimp only; omega)]
        dsimp only
        exact Prod.ext hrun.symm rfl
  · have : restV N x own fixed = (0, [], stepC N x own fixed) := by unfold restV; rw [if_pos g0]
    rw [this] at h; exact absurd h g0
/-- the sets that are tried rise. -/
theorem chs_rise (n : Nat) : ∀ m lo, ∀ t ∈ chs n m lo, Rise t
  | 0, _, t, h => by simp [chs] at h; subst h; intro i hi; simp at hi
  | m + 1, lo, t, h => by
    simp only [chs, List.mem_flatMap, List.mem_map, List.mem_range'_1] at h
    obtain ⟨i, hi, t', h', rfl⟩ := h
    have ih := chs_rise n m (i + 1) t' h'
    have hm := chs_mem n m (i + 1) t' h'
    intro j hj
    cases j with
    | zero =>
      simp at hj
      have : t'.getD 0 0 ∈ t' := by simp [List.getD, hj]
      have := hm _ this
      show (i : Int) < t'.getD 0 0
      omega
    | succ j => simp at hj; exact ih j (by omega)
theorem allFrom_mem {n m : Nat} {t : List Int} (h : t ∈ allFrom n m) : Rise t ∧ ∀ x ∈ t, 0 ≤ x ∧ x < n := by
  simp only [allFrom, List.mem_flatMap] at h
  obtain ⟨j, _, h⟩ := h
  exact ⟨chs_rise n j 0 t h, fun x hx => chs_mem n j 0 t h x hx⟩
/-- one cell of one's own block is written: all else stays. -/
def Keep (b : Nat) (G G' : GH) : Prop := ∀ x, x ≠ b → G' x = G x
theorem sub_keep {b : Nat} {G G' H : GH} (h : Keep b G G') (hb : H b = none) (s : Sub H G) : Sub H G' := fun x e hx => by
  have : x ≠ b := fun e' => by rw [e', hb] at hx; cases hx
  rw [h x this]; exact s x e hx
/-- bytes in memory. -/
structure BytS (G : GH) (A : Option Addr) (L c : Nat) : Prop where
  cap : L ≤ c
  rd : ∀ i, i < L → ∃ z : Int, 0 ≤ z ∧ z ≤ 255 ∧ rd G (pa A i) = some (.int .u8 z)
theorem BytS.sub {G G' : GH} {A : Option Addr} {L c : Nat} (h : BytS G A L c) (s : Sub G G') : BytS G' A L c := ⟨h.cap, fun i hi => by
  obtain ⟨z, h0, h1, h2⟩ := h.rd i hi
  exact ⟨z, h0, h1, rd_sub s h2⟩⟩
/-- a source: a block of one's own, of which only this is known; H is what else is known. -/
structure Src (H G : GH) (b : Nat) (A : Option Addr) (L c p : Nat) : Prop where
  sub : Sub H G
  nb : H b = none
  byt : BytS H A L c
  ex : ∃ (p' : Nat) (st : Int), p' ≤ p ∧ G b = some ⟨[.slice A L c, .int .i64 p', .int .u64 st], true⟩
theorem Src.le {H G : GH} {b : Nat} {A : Option Addr} {L c p p' : Nat} (h : Src H G b A L c p) (hp : p ≤ p') : Src H G b A L c p' := by
  obtain ⟨q, st, h1, h2⟩ := h.ex
  exact ⟨h.sub, h.nb, h.byt, q, st, by omega, h2⟩
theorem Src.ne {H G : GH} {b x : Nat} {A : Option Addr} {L c p : Nat} (h : Src H G b A L c p) (hx : G x = none) : x ≠ b := by
  obtain ⟨q, st, h1, h2⟩ := h.ex
  exact fun e => by rw [e, h2] at hx; cases hx
/-- a new block beside it. -/
theorem Src.box {H G : GH} {b x : Nat} {A : Option Addr} {L c p : Nat} (h : Src H G b A L c p) (hx : G x = none) (e : Ent) : Src (put H x e) (put G x e) b A L c p := by
  have hne := h.ne hx
  obtain ⟨q, st, h1, h2⟩ := h.ex
  exact ⟨h.sub.both, by rw [put_ne _ _ hne.symm]; exact h.nb, h.byt.sub (Sub.put (h.sub.none hx) _), q, st, h1, by rw [put_ne _ _ hne.symm]; exact h2⟩
theorem Src.low {H H' G : GH} {b : Nat} {A : Option Addr} {L c p : Nat} (h : Src H G b A L c p) (s : Sub H' H) (hb : BytS H' A L c) : Src H' G b A L c p := ⟨s.trans h.sub, s.none h.nb, hb, h.ex⟩
theorem shr40 (st : Int) : binV .shr (.int .u64 st) (.int .u64 40) = some (.int .u64 (st.fdiv (2 ^ 40))) := by
  simp [binV, binOp, Op.shift, pureOf, pure, IntKind.bits]
theorem and255 (x : Int) : ∃ z : Int, (0 ≤ z ∧ z ≤ 255) ∧ binV .and (.int .u64 x) (.int .u64 255) = some (.int .u64 z) := by
  have h2 : binV .and (.int .u64 x) (.int .u64 255) = some (.int .u64 (IntKind.u64.wrap ((BitVec.ofInt 64 x &&& BitVec.ofInt 64 255).toNat : Nat))) := rfl
  refine ⟨_, ?_, h2⟩
  have h1 : (BitVec.ofInt 64 x &&& BitVec.ofInt 64 255).toNat ≤ 255 := by
    rw [BitVec.toNat_and]
    exact Nat.le_trans Nat.and_le_right (by decide)
  generalize (BitVec.ofInt 64 x &&& BitVec.ofInt 64 255).toNat = w at *
  have : IntKind.u64.wrap (w : Int) = w := by
    simp [IntKind.wrap, IntKind.signed, IntKind.bits]
    omega
  rw [this]; omega
theorem rd_some' {G : GH} {A : Option Addr} {k : Nat} {v : Value} (h : rd G (pa A k) = some v) : 0 < sn A := by
  cases A with
  | none => cases h
  | some a => simp [sn]
theorem st_src {G : GH} {b o : Nat} {cs : List Value} {v : Value} {K : Value → GH → Prop} (h : G b = some ⟨cs, true⟩) (h1 : oneB v = true) (ho : o < cs.length) (hk : ∀ G', Keep b G G' → G' b = some ⟨cs.set o v, true⟩ → K undef G') : gSt 1 (.pointer (some ⟨b, o, none⟩)) v G K :=
  st_one h ho h1 (hk _ (fun y hy => put_ne _ _ hy) (put_same _ _ _))
theorem spec_next_ok {H G : GH} {b : Nat} {A : Option Addr} {L c p : Nat} (h : Src H G b A L c p) (hp : p < 2 ^ 40) {K : Value → GH → Prop}
    (hk : ∀ (v : Int) G', 0 ≤ v → v ≤ 255 → Src H G' b A L c (p + 1) → K (.int .i64 v) G') : GC Try.prog 249 [.pointer (some ⟨b, 0, none⟩)] G K := by
  refine c_spec_l00Src_next_i (by simp) ?_
  obtain ⟨p', st, hpp, hb⟩ := h.ex
  have r0 : rd G (some ⟨b, 0, none⟩) = some (.slice A L c) := by simp only [rd, hb]; rfl
  have r1 : rd G (some ⟨b, 1, none⟩) = some (.int .i64 p') := by simp only [rd, hb]; rfl
  have r2 : rd G (some ⟨b, 2, none⟩) = some (.int .u64 st) := by simp only [rd, hb]; rfl
  have fin : ∀ (st' : Int) (v : Int) (G' : GH), 0 ≤ v → v ≤ 255 → Keep b G G' → G' b = some ⟨[.slice A L c, .int .i64 ((p' : Int) + 1), .int .u64 st'], true⟩ → K (.int .i64 v) G' := fun st' v G' h0 h1 hK hb' =>
    hk v G' h0 h1 ⟨sub_keep hK h.nb h.sub, h.nb, h.byt, p' + 1, st', by omega, by rw [hb']; rfl⟩
  clear hk
  have hz := and255
  simp (maxSteps := 300000) (disch := omega) only [gs, gs2, gs3, ↓reduceIte, Nat.reduceEqDiff, Nat.mul_one, Nat.add_zero, Nat.zero_add, Nat.zero_mul, Int.toNat_natCast, Int.reduceToNat, Nat.reduceMul, Nat.reduceAdd, decide_true, decide_false, Bool.not_true, Bool.not_false, true_and, and_true, List.map_cons, List.map_nil, List.nil_append, List.cons_append, List.append_nil, Option.map_some, Option.bind_some, List.getElem?_cons_zero, List.getElem?_cons_succ, Bool.false_eq_true, not_true_eq_false, not_false_eq_true, List.contains_cons, List.contains_nil, Nat.reduceBEq, Bool.true_or, Bool.false_or, Bool.or_true, List.set_cons_zero, List.set_cons_succ, List.length_cons, List.length_nil, isLd, Bool.true_and, Bool.false_and, Bool.and_true, Bool.and_false, r0, r1, r2]
  by_cases hlt : (p' : Int) < L
  · obtain ⟨z, z0, z1, hz'⟩ := h.byt.rd p' (by omega)
    have hz' := rd_sub h.sub hz'
    have hsA : 0 < sn A := rd_some' hz'
    simp (maxSteps := 300000) (disch := omega) only [gs, gs2, gs3, ↓reduceIte, Nat.reduceEqDiff, Nat.mul_one, Nat.add_zero, Nat.zero_add, Nat.zero_mul, Int.toNat_natCast, Int.reduceToNat, Nat.reduceMul, Nat.reduceAdd, decide_true, decide_false, Bool.not_true, Bool.not_false, true_and, and_true, List.map_cons, List.map_nil, List.nil_append, List.cons_append, List.append_nil, Option.map_some, Option.bind_some, List.getElem?_cons_zero, List.getElem?_cons_succ, Bool.false_eq_true, not_true_eq_false, not_false_eq_true, List.contains_cons, List.contains_nil, Nat.reduceBEq, Bool.true_or, Bool.false_or, Bool.or_true, List.set_cons_zero, List.set_cons_succ, List.length_cons, List.length_nil, isLd, Bool.true_and, Bool.false_and, Bool.and_true, Bool.and_false, r0, r1, r2, hlt, hz']
    refine st_src hb rfl (by simp) fun G2 hK1 hb1 => ?_
    simp only [List.set_cons_succ, List.set_cons_zero] at hb1
    have r0 : rd G2 (some ⟨b, 0, none⟩) = some (.slice A L c) := by simp only [rd, hb1]; rfl
    have r1 : rd G2 (some ⟨b, 1, none⟩) = some (.int .i64 ((p' : Int) + 1)) := by simp only [rd, hb1]; rfl
    have r2 : rd G2 (some ⟨b, 2, none⟩) = some (.int .u64 st) := by simp only [rd, hb1]; rfl
    simp (maxSteps := 300000) (disch := omega) only [gs, gs2, gs3, ↓reduceIte, Nat.reduceEqDiff, Nat.mul_one, Nat.add_zero, Nat.zero_add, Nat.zero_mul, Int.toNat_natCast, Int.reduceToNat, Nat.reduceMul, Nat.reduceAdd, decide_true, decide_false, Bool.not_true, Bool.not_false, true_and, and_true, List.map_cons, List.map_nil, List.nil_append, List.cons_append, List.append_nil, Option.map_some, Option.bind_some, List.getElem?_cons_zero, List.getElem?_cons_succ, Bool.false_eq_true, not_true_eq_false, not_false_eq_true, List.contains_cons, List.contains_nil, Nat.reduceBEq, Bool.true_or, Bool.false_or, Bool.or_true, List.set_cons_zero, List.set_cons_succ, List.length_cons, List.length_nil, isLd, Bool.true_and, Bool.false_and, Bool.and_true, Bool.and_false, r0, r1, r2]
    refine st_src hb1 rfl (by simp) fun G3 hK2 hb2 => ?_
    simp only [List.set_cons_succ, List.set_cons_zero] at hb2
    have hK3 : Keep b G G3 := fun x hx => (hK2 x hx).trans (hK1 x hx)
    obtain ⟨st', hb3⟩ : ∃ st', G3 b = some ⟨[.slice A L c, .int .i64 ((p' : Int) + 1), .int .u64 st'], true⟩ := ⟨_, hb2⟩
    clear hb2
    have r0 : rd G3 (some ⟨b, 0, none⟩) = some (.slice A L c) := by simp only [rd, hb3]; rfl
    have r1 : rd G3 (some ⟨b, 1, none⟩) = some (.int .i64 ((p' : Int) + 1)) := by simp only [rd, hb3]; rfl
    have r2 : rd G3 (some ⟨b, 2, none⟩) = some (.int .u64 st') := by simp only [rd, hb3]; rfl
    simp (maxSteps := 300000) (disch := omega) only [gs, gs2, gs3, ↓reduceIte, Nat.reduceEqDiff, Nat.mul_one, Nat.add_zero, Nat.zero_add, Nat.zero_mul, Int.toNat_natCast, Int.reduceToNat, Nat.reduceMul, Nat.reduceAdd, decide_true, decide_false, Bool.not_true, Bool.not_false, true_and, and_true, List.map_cons, List.map_nil, List.nil_append, List.cons_append, List.append_nil, Option.map_some, Option.bind_some, List.getElem?_cons_zero, List.getElem?_cons_succ, Bool.false_eq_true, not_true_eq_false, not_false_eq_true, List.contains_cons, List.contains_nil, Nat.reduceBEq, Bool.true_or, Bool.false_or, Bool.or_true, List.set_cons_zero, List.set_cons_succ, List.length_cons, List.length_nil, isLd, Bool.true_and, Bool.false_and, Bool.and_true, Bool.and_false, r0, r1, r2, show ((p' : Int) + 1 ≤ L) = True from eq_true (by omega)]
    exact fin st' z G3 z0 z1 hK3 hb3
  · simp (maxSteps := 300000) (disch := omega) only [gs, gs2, gs3, ↓reduceIte, Nat.reduceEqDiff, Nat.mul_one, Nat.add_zero, Nat.zero_add, Nat.zero_mul, Int.toNat_natCast, Int.reduceToNat, Nat.reduceMul, Nat.reduceAdd, decide_true, decide_false, Bool.not_true, Bool.not_false, true_and, and_true, List.map_cons, List.map_nil, List.nil_append, List.cons_append, List.append_nil, Option.map_some, Option.bind_some, List.getElem?_cons_zero, List.getElem?_cons_succ, Bool.false_eq_true, not_true_eq_false, not_false_eq_true, List.contains_cons, List.contains_nil, Nat.reduceBEq, Bool.true_or, Bool.false_or, Bool.or_true, List.set_cons_zero, List.set_cons_succ, List.length_cons, List.length_nil, isLd, Bool.true_and, Bool.false_and, Bool.and_true, Bool.and_false, r0, r1, r2, hlt]
    refine st_src hb rfl (by simp) fun G2 hK1 hb1 => ?_
    simp only [List.set_cons_succ, List.set_cons_zero] at hb1
    have r0 : rd G2 (some ⟨b, 0, none⟩) = some (.slice A L c) := by simp only [rd, hb1]; rfl
    have r1 : rd G2 (some ⟨b, 1, none⟩) = some (.int .i64 ((p' : Int) + 1)) := by simp only [rd, hb1]; rfl
    have r2 : rd G2 (some ⟨b, 2, none⟩) = some (.int .u64 st) := by simp only [rd, hb1]; rfl
    simp (maxSteps := 300000) (disch := omega) only [gs, gs2, gs3, ↓reduceIte, Nat.reduceEqDiff, Nat.mul_one, Nat.add_zero, Nat.zero_add, Nat.zero_mul, Int.toNat_natCast, Int.reduceToNat, Nat.reduceMul, Nat.reduceAdd, decide_true, decide_false, Bool.not_true, Bool.not_false, true_and, and_true, List.map_cons, List.map_nil, List.nil_append, List.cons_append, List.append_nil, Option.map_some, Option.bind_some, List.getElem?_cons_zero, List.getElem?_cons_succ, Bool.false_eq_true, not_true_eq_false, not_false_eq_true, List.contains_cons, List.contains_nil, Nat.reduceBEq, Bool.true_or, Bool.false_or, Bool.or_true, List.set_cons_zero, List.set_cons_succ, List.length_cons, List.length_nil, isLd, Bool.true_and, Bool.false_and, Bool.and_true, Bool.and_false, r0, r1, r2]
    refine st_src hb1 rfl (by simp) fun G3 hK2 hb2 => ?_
    simp only [List.set_cons_succ, List.set_cons_zero] at hb2
    have hK3 : Keep b G G3 := fun x hx => (hK2 x hx).trans (hK1 x hx)
    obtain ⟨st', hb3⟩ : ∃ st', G3 b = some ⟨[.slice A L c, .int .i64 ((p' : Int) + 1), .int .u64 st'], true⟩ := ⟨_, hb2⟩
    clear hb2
    have r0 : rd G3 (some ⟨b, 0, none⟩) = some (.slice A L c) := by simp only [rd, hb3]; rfl
    have r1 : rd G3 (some ⟨b, 1, none⟩) = some (.int .i64 ((p' : Int) + 1)) := by simp only [rd, hb3]; rfl
    have r2 : rd G3 (some ⟨b, 2, none⟩) = some (.int .u64 st') := by simp only [rd, hb3]; rfl
    obtain ⟨z, ⟨z0, z1⟩, hz'⟩ := hz (st'.fdiv (2 ^ 40))
    simp (maxSteps := 300000) (disch := omega) only [gs, gs2, gs3, ↓reduceIte, Nat.reduceEqDiff, Nat.mul_one, Nat.add_zero, Nat.zero_add, Nat.zero_mul, Int.toNat_natCast, Int.reduceToNat, Nat.reduceMul, Nat.reduceAdd, decide_true, decide_false, Bool.not_true, Bool.not_false, true_and, and_true, List.map_cons, List.map_nil, List.nil_append, List.cons_append, List.append_nil, Option.map_some, Option.bind_some, List.getElem?_cons_zero, List.getElem?_cons_succ, Bool.false_eq_true, not_true_eq_false, not_false_eq_true, List.contains_cons, List.contains_nil, Nat.reduceBEq, Bool.true_or, Bool.false_or, Bool.or_true, List.set_cons_zero, List.set_cons_succ, List.length_cons, List.length_nil, isLd, Bool.true_and, Bool.false_and, Bool.and_true, Bool.and_false, r0, r1, r2, show ((p' : Int) + 1 ≤ L) = False from eq_false (by omega), shr40, hz']
    exact fin st' z G3 z0 z1 hK3 hb3
theorem spec_pick_ok {H G : GH} {b : Nat} {A : Option Addr} {L c p : Nat} (h : Src H G b A L c p) (hp : p + 2 < 2 ^ 40) {n : Int} (hn : n ≤ 10000) {K : Value → GH → Prop}
    (hk : ∀ (v : Int) G', 0 ≤ v → (1 ≤ n → v < n) → (n < 1 → v = 0) → Src H G' b A L c (p + 2) → K (.int .i64 v) G') : GC Try.prog 220 [.pointer (some ⟨b, 0, none⟩), .int .i64 n] G K := by
  refine c_spec_l00Src_pick_i (by simp) ?_
  simp (maxSteps := 300000) (disch := omega) only [gs, gs2, gs3, ↓reduceIte, Nat.reduceEqDiff, Nat.mul_one, Nat.add_zero, Nat.zero_add, Nat.zero_mul, Int.toNat_natCast, Int.reduceToNat, Nat.reduceMul, Nat.reduceAdd, decide_true, decide_false, Bool.not_true, Bool.not_false, true_and, and_true, List.map_cons, List.map_nil, List.nil_append, List.cons_append, List.append_nil, Option.map_some, Option.bind_some, List.getElem?_cons_zero, List.getElem?_cons_succ, Bool.false_eq_true, not_true_eq_false, not_false_eq_true, List.contains_cons, List.contains_nil, Nat.reduceBEq, Bool.true_or, Bool.false_or, Bool.or_true, List.set_cons_zero, List.set_cons_succ, List.length_cons, List.length_nil, isLd, Bool.true_and, Bool.false_and, Bool.and_true, Bool.and_false]
  by_cases h1 : n ≤ 1
  · simp (maxSteps := 300000) (disch := omega) only [gs, gs2, gs3, ↓reduceIte, Nat.reduceEqDiff, Nat.mul_one, Nat.add_zero, Nat.zero_add, Nat.zero_mul, Int.toNat_natCast, Int.reduceToNat, Nat.reduceMul, Nat.reduceAdd, decide_true, decide_false, Bool.not_true, Bool.not_false, true_and, and_true, List.map_cons, List.map_nil, List.nil_append, List.cons_append, List.append_nil, Option.map_some, Option.bind_some, List.getElem?_cons_zero, List.getElem?_cons_succ, Bool.false_eq_true, not_true_eq_false, not_false_eq_true, List.contains_cons, List.contains_nil, Nat.reduceBEq, Bool.true_or, Bool.false_or, Bool.or_true, List.set_cons_zero, List.set_cons_succ, List.length_cons, List.length_nil, isLd, Bool.true_and, Bool.false_and, Bool.and_true, Bool.and_false, h1]
    exact hk 0 G (by omega) (by omega) (fun _ => rfl) (h.le (by omega))
  · simp (maxSteps := 300000) (disch := omega) only [gs, gs2, gs3, ↓reduceIte, Nat.reduceEqDiff, Nat.mul_one, Nat.add_zero, Nat.zero_add, Nat.zero_mul, Int.toNat_natCast, Int.reduceToNat, Nat.reduceMul, Nat.reduceAdd, decide_true, decide_false, Bool.not_true, Bool.not_false, true_and, and_true, List.map_cons, List.map_nil, List.nil_append, List.cons_append, List.append_nil, Option.map_some, Option.bind_some, List.getElem?_cons_zero, List.getElem?_cons_succ, Bool.false_eq_true, not_true_eq_false, not_false_eq_true, List.contains_cons, List.contains_nil, Nat.reduceBEq, Bool.true_or, Bool.false_or, Bool.or_true, List.set_cons_zero, List.set_cons_succ, List.length_cons, List.length_nil, isLd, Bool.true_and, Bool.false_and, Bool.and_true, Bool.and_false, h1]
    refine spec_next_ok h (by omega) fun v G2 v0 v1 h2 => ?_
    simp (maxSteps := 300000) (disch := omega) only [gs, gs2, gs3, ↓reduceIte, Nat.reduceEqDiff, Nat.mul_one, Nat.add_zero, Nat.zero_add, Nat.zero_mul, Int.toNat_natCast, Int.reduceToNat, Nat.reduceMul, Nat.reduceAdd, decide_true, decide_false, Bool.not_true, Bool.not_false, true_and, and_true, List.map_cons, List.map_nil, List.nil_append, List.cons_append, List.append_nil, Option.map_some, Option.bind_some, List.getElem?_cons_zero, List.getElem?_cons_succ, Bool.false_eq_true, not_true_eq_false, not_false_eq_true, List.contains_cons, List.contains_nil, Nat.reduceBEq, Bool.true_or, Bool.false_or, Bool.or_true, List.set_cons_zero, List.set_cons_succ, List.length_cons, List.length_nil, isLd, Bool.true_and, Bool.false_and, Bool.and_true, Bool.and_false]
    have fin : ∀ (x : Int) G', 0 ≤ x → Src H G' b A L c (p + 2) → K (.int .i64 (x.tmod n)) G' := fun x G' x0 h' => by
      have e1 := Int.tmod_nonneg n x0
      have e2 := Int.tmod_lt_of_pos x (show 0 < n by omega)
      exact hk _ G' e1 (fun _ => e2) (fun y => by omega) h'
    have hrem := fun x : Int => bin_rem .i64 x n (by omega)
    by_cases h3 : 200 < n
    · simp (maxSteps := 300000) (disch := omega) only [gs, gs2, gs3, ↓reduceIte, Nat.reduceEqDiff, Nat.mul_one, Nat.add_zero, Nat.zero_add, Nat.zero_mul, Int.toNat_natCast, Int.reduceToNat, Nat.reduceMul, Nat.reduceAdd, decide_true, decide_false, Bool.not_true, Bool.not_false, true_and, and_true, List.map_cons, List.map_nil, List.nil_append, List.cons_append, List.append_nil, Option.map_some, Option.bind_some, List.getElem?_cons_zero, List.getElem?_cons_succ, Bool.false_eq_true, not_true_eq_false, not_false_eq_true, List.contains_cons, List.contains_nil, Nat.reduceBEq, Bool.true_or, Bool.false_or, Bool.or_true, List.set_cons_zero, List.set_cons_succ, List.length_cons, List.length_nil, isLd, Bool.true_and, Bool.false_and, Bool.and_true, Bool.and_false, h3]
      refine spec_next_ok h2 (by omega) fun w G3 w0 w1 h4 => ?_
      simp (maxSteps := 300000) (disch := omega) only [gs, gs2, gs3, ↓reduceIte, Nat.reduceEqDiff, Nat.mul_one, Nat.add_zero, Nat.zero_add, Nat.zero_mul, Int.toNat_natCast, Int.reduceToNat, Nat.reduceMul, Nat.reduceAdd, decide_true, decide_false, Bool.not_true, Bool.not_false, true_and, and_true, List.map_cons, List.map_nil, List.nil_append, List.cons_append, List.append_nil, Option.map_some, Option.bind_some, List.getElem?_cons_zero, List.getElem?_cons_succ, Bool.false_eq_true, not_true_eq_false, not_false_eq_true, List.contains_cons, List.contains_nil, Nat.reduceBEq, Bool.true_or, Bool.false_or, Bool.or_true, List.set_cons_zero, List.set_cons_succ, List.length_cons, List.length_nil, isLd, Bool.true_and, Bool.false_and, Bool.and_true, Bool.and_false, hrem]
      exact fin _ G3 (by omega) h4
    · simp (maxSteps := 300000) (disch := omega) only [gs, gs2, gs3, ↓reduceIte, Nat.reduceEqDiff, Nat.mul_one, Nat.add_zero, Nat.zero_add, Nat.zero_mul, Int.toNat_natCast, Int.reduceToNat, Nat.reduceMul, Nat.reduceAdd, decide_true, decide_false, Bool.not_true, Bool.not_false, true_and, and_true, List.map_cons, List.map_nil, List.nil_append, List.cons_append, List.append_nil, Option.map_some, Option.bind_some, List.getElem?_cons_zero, List.getElem?_cons_succ, Bool.false_eq_true, not_true_eq_false, not_false_eq_true, List.contains_cons, List.contains_nil, Nat.reduceBEq, Bool.true_or, Bool.false_or, Bool.or_true, List.set_cons_zero, List.set_cons_succ, List.length_cons, List.length_nil, isLd, Bool.true_and, Bool.false_and, Bool.and_true, Bool.and_false, h3, hrem]
      exact fin _ G2 v0 (h2.le (by omega))
theorem spec_one_ok {H G : GH} {b : Nat} {A : Option Addr} {L c p : Nat} (h : Src H G b A L c p) (hp : p + 2 < 2 ^ 40) {n : Int} (hn : n ≤ 10000) {K : Value → GH → Prop}
    (hk : ∀ (v : Bool) G', Src H G' b A L c (p + 2) → K (.bool v) G') : GC Try.prog 221 [.pointer (some ⟨b, 0, none⟩), .int .i64 n] G K := by
  refine c_spec_l00Src_one_i (by simp) ?_
  simp (maxSteps := 300000) (disch := omega) only [gs, gs2, gs3, ↓reduceIte, Nat.reduceEqDiff, Nat.mul_one, Nat.add_zero, Nat.zero_add, Nat.zero_mul, Int.toNat_natCast, Int.reduceToNat, Nat.reduceMul, Nat.reduceAdd, decide_true, decide_false, Bool.not_true, Bool.not_false, true_and, and_true, List.map_cons, List.map_nil, List.nil_append, List.cons_append, List.append_nil, Option.map_some, Option.bind_some, List.getElem?_cons_zero, List.getElem?_cons_succ, Bool.false_eq_true, not_true_eq_false, not_false_eq_true, List.contains_cons, List.contains_nil, Nat.reduceBEq, Bool.true_or, Bool.false_or, Bool.or_true, List.set_cons_zero, List.set_cons_succ, List.length_cons, List.length_nil, isLd, Bool.true_and, Bool.false_and, Bool.and_true, Bool.and_false]
  refine spec_pick_ok h hp hn fun v G2 _ _ _ h2 => ?_
  simp (maxSteps := 300000) (disch := omega) only [gs, gs2, gs3, ↓reduceIte, Nat.reduceEqDiff, Nat.mul_one, Nat.add_zero, Nat.zero_add, Nat.zero_mul, Int.toNat_natCast, Int.reduceToNat, Nat.reduceMul, Nat.reduceAdd, decide_true, decide_false, Bool.not_true, Bool.not_false, true_and, and_true, List.map_cons, List.map_nil, List.nil_append, List.cons_append, List.append_nil, Option.map_some, Option.bind_some, List.getElem?_cons_zero, List.getElem?_cons_succ, Bool.false_eq_true, not_true_eq_false, not_false_eq_true, List.contains_cons, List.contains_nil, Nat.reduceBEq, Bool.true_or, Bool.false_or, Bool.or_true, List.set_cons_zero, List.set_cons_succ, List.length_cons, List.length_nil, isLd, Bool.true_and, Bool.false_and, Bool.and_true, Bool.and_false]
  exact hk _ G2 h2
theorem spec_among_ok {H G : GH} {b : Nat} {A B : Option Addr} {L c p d : Nat} {xs : List Int} (h : Src H G b A L c p) (hp : p + 2 < 2 ^ 40) (hx : IntS H B d xs) (hl : 1 ≤ xs.length) (hl2 : xs.length ≤ 10000) {K : Value → GH → Prop}
    (hk : ∀ (v : Int) G', v ∈ xs → Src H G' b A L c (p + 2) → K (.int .i64 v) G') : GC Try.prog 157 [.pointer (some ⟨b, 0, none⟩), .slice B xs.length d] G K := by
  refine c_spec_l00Src_among_i (by simp) ?_
  simp (maxSteps := 300000) (disch := omega) only [gs, gs2, gs3, ↓reduceIte, Nat.reduceEqDiff, Nat.mul_one, Nat.add_zero, Nat.zero_add, Nat.zero_mul, Int.toNat_natCast, Int.reduceToNat, Nat.reduceMul, Nat.reduceAdd, decide_true, decide_false, Bool.not_true, Bool.not_false, true_and, and_true, List.map_cons, List.map_nil, List.nil_append, List.cons_append, List.append_nil, Option.map_some, Option.bind_some, List.getElem?_cons_zero, List.getElem?_cons_succ, Bool.false_eq_true, not_true_eq_false, not_false_eq_true, List.contains_cons, List.contains_nil, Nat.reduceBEq, Bool.true_or, Bool.false_or, Bool.or_true, List.set_cons_zero, List.set_cons_succ, List.length_cons, List.length_nil, isLd, Bool.true_and, Bool.false_and, Bool.and_true, Bool.and_false]
  refine spec_pick_ok h hp (by omega) fun v G2 v0 v1 _ h2 => ?_
  have hv := v1 (by omega)
  have q := (hx.sub h2.sub).rd v.toNat (by omega)
  have hsB := hx.sn (by omega)
  simp (maxSteps := 300000) (disch := omega) only [gs, gs2, gs3, ↓reduceIte, Nat.reduceEqDiff, Nat.mul_one, Nat.add_zero, Nat.zero_add, Nat.zero_mul, Int.toNat_natCast, Int.reduceToNat, Nat.reduceMul, Nat.reduceAdd, decide_true, decide_false, Bool.not_true, Bool.not_false, true_and, and_true, List.map_cons, List.map_nil, List.nil_append, List.cons_append, List.append_nil, Option.map_some, Option.bind_some, List.getElem?_cons_zero, List.getElem?_cons_succ, Bool.false_eq_true, not_true_eq_false, not_false_eq_true, List.contains_cons, List.contains_nil, Nat.reduceBEq, Bool.true_or, Bool.false_or, Bool.or_true, List.set_cons_zero, List.set_cons_succ, List.length_cons, List.length_nil, isLd, Bool.true_and, Bool.false_and, Bool.and_true, Bool.and_false, q]
  exact hk _ G2 (by
    have : v.toNat < xs.length := by omega
    simp [List.getD, this]) h2
theorem flat3_set2 (x : Int) (r : List Value) : ∀ (es : List T3) (k : Nat), k < es.length → (flat3 es ++ r).set (k * 3 + 2) (.int .i64 x) = flat3 (es.set k ((es.getD k z3).1, (es.getD k z3).2.1, x)) ++ r
  | [], k, h => by simp at h
  | e :: es, 0, _ => by simp [flat3, c3, List.getD]
  | e :: es, k + 1, h => by
    have ih := flat3_set2 x r es k (by simpa using h)
    have e1 : flat3 (e :: es) = c3 e ++ flat3 es := by simp [flat3]
    have e2 : (e :: es).getD (k + 1) z3 = es.getD k z3 := rfl
    rw [e1, e2, List.set_cons_succ, show flat3 (e :: es.set k ((es.getD k z3).1, (es.getD k z3).2.1, x)) = c3 e ++ flat3 (es.set k ((es.getD k z3).1, (es.getD k z3).2.1, x)) by simp [flat3], List.append_assoc, List.append_assoc, ← ih, show (k + 1) * 3 + 2 = (c3 e).length + (k * 3 + 2) by simp [c3]; omega, List.set_append_right _ _ (by omega), Nat.add_sub_cancel_left]
theorem T3S.cells {G : GH} {A : Option Addr} {c : Nat} {es : List T3} (h : T3S G A c es) : Cells G A (flat3 es) := fun i v hv => by
  have hl : i < (flat3 es).length := by
    rcases Nat.lt_or_ge i (flat3 es).length with h | h
    · exact h
    · rw [List.getElem?_eq_none h] at hv; cases hv
  rw [flat3_len] at hl
  have hi : i / 3 < es.length := by omega
  obtain ⟨g0, g1, g2⟩ := flat3_get es (i / 3) hi
  have h3 : i % 3 = 0 ∨ i % 3 = 1 ∨ i % 3 = 2 := by omega
  rcases h3 with h3 | h3 | h3
  · rw [show i = i / 3 * 3 by omega] at hv ⊢
    rw [g0] at hv; cases hv
    exact h.r0 _ hi
  · have e : i = i / 3 * 3 + 1 := by omega
    rw [e] at hv ⊢
    rw [g1] at hv; cases hv
    exact h.r1 _ hi
  · have e : i = i / 3 * 3 + 2 := by omega
    rw [e] at hv ⊢
    rw [g2] at hv; cases hv
    exact h.r2 _ hi
def z4 : List Value := [.int .i64 0, .int .i64 0, .int .i64 0, .slice none 0 0]
theorem Src.all {H G : GH} {b : Nat} {A : Option Addr} {L c p : Nat} (h : Src H G b A L c p) : Src (del G b) G b A L c p := ⟨Sub.del _ _, del_none _ _, h.byt.sub (h.sub.in_del h.nb), h.ex⟩
theorem Own.del {G : GH} {A : Option Addr} {c sz n b : Nat} {cs : List Value} (h : Own G A c cs sz n) (hb : ∀ a, A = some a → a.block ≠ b) : Own (Gh.del G b) A c cs sz n := by
  rcases h with h | ⟨x, r, rfl, h2, h3⟩
  · exact .inl h
  · exact .inr ⟨x, r, rfl, by rw [del_ne _ (hb _ rfl)]; exact h2, h3⟩
/-- the heap without the block of a list. -/
def wo (G : GH) (A : Option Addr) : GH := fun x => if A.map (·.block) = some x then none else G x
theorem Sub.wo (G : GH) (A : Option Addr) : Sub (Gh.wo G A) G := fun x e h => by
  unfold Gh.wo at h; split at h
  · cases h
  · exact h
theorem Off.wo (G : GH) (A : Option Addr) : Off (Gh.wo G A) A := fun a ha => by unfold Gh.wo; rw [if_pos (by rw [ha]; rfl)]
theorem wo_ne {G : GH} {A : Option Addr} {x : Nat} (h : ∀ a, A = some a → a.block ≠ x) : wo G A x = G x := by
  unfold wo; rw [if_neg]
  cases A with
  | none => simp
  | some a => simp; exact h a rfl
def z2 : List Value := [.int .i64 0, .slice none 0 0]
structure GN (H0 G : GH) (b b2 b3 : Nat) (A : Option Addr) (L c p : Nat) (N : Gra) (Ap : Option Addr) (cp : Nat) : Prop where
  src : Src H0 G b A L c p
  r2 : G b2 = some ⟨z2, true⟩
  r3 : G b3 = some ⟨graC N Ap cp, true⟩
  own : Own G Ap cp (flat3 N.edges) 3 N.edges.length
  n2 : H0 b2 = none
  n3 : H0 b3 = none
  off : Off H0 Ap
  d2 : b2 ≠ b
  d3 : b3 ≠ b
  d23 : b2 ≠ b3
  da : ∀ a, Ap = some a → a.block ≠ b ∧ a.block ≠ b2 ∧ a.block ≠ b3
theorem GN.step {H0 G G' : GH} {b b2 b3 : Nat} {A : Option Addr} {L c p p' : Nat} {N : Gra} {Ap : Option Addr} {cp : Nat} (h : GN H0 G b b2 b3 A L c p N Ap cp) (s : Src (del G b) G' b A L c p') : GN H0 G' b b2 b3 A L c p' N Ap cp := by
  have hs := s.sub
  exact ⟨⟨(h.src.sub.in_del h.src.nb).trans hs, h.src.nb, h.src.byt, s.ex⟩, hs _ _ (by rw [del_ne _ h.d2]; exact h.r2), hs _ _ (by rw [del_ne _ h.d3]; exact h.r3), (h.own.del fun a ha => (h.da a ha).1).sub hs, h.n2, h.n3, h.off, h.d2, h.d3, h.d23, h.da⟩
theorem GN.box {H0 G : GH} {b b2 b3 x : Nat} {A : Option Addr} {L c p : Nat} {N : Gra} {Ap : Option Addr} {cp : Nat} (h : GN H0 G b b2 b3 A L c p N Ap cp) (hx : G x = none) (e : Ent) : GN H0 (put G x e) b b2 b3 A L c p N Ap cp := by
  have s := Sub.put hx e
  obtain ⟨q, st, h1, h2⟩ := h.src.ex
  exact ⟨⟨h.src.sub.trans s, h.src.nb, h.src.byt, q, st, h1, s _ _ h2⟩, s _ _ h.r2, s _ _ h.r3, h.own.sub s, h.n2, h.n3, h.off, h.d2, h.d3, h.d23, h.da⟩
theorem GN.le {H0 G : GH} {b b2 b3 : Nat} {A : Option Addr} {L c p p' : Nat} {N : Gra} {Ap : Option Addr} {cp : Nat} (h : GN H0 G b b2 b3 A L c p N Ap cp) (hp : p ≤ p') : GN H0 G b b2 b3 A L c p' N Ap cp := ⟨h.src.le hp, h.r2, h.r3, h.own, h.n2, h.n3, h.off, h.d2, h.d3, h.d23, h.da⟩
theorem GN.rd {H0 G : GH} {b b2 b3 : Nat} {A : Option Addr} {L c p : Nat} {N : Gra} {Ap : Option Addr} {cp : Nat} (h : GN H0 G b b2 b3 A L c p N Ap cp) : rd G (some ⟨b3, 0, none⟩) = some (.int .i64 N.n) ∧ rd G (some ⟨b3, 1, none⟩) = some (.slice Ap N.edges.length cp) := by
  simp only [Gh.rd, h.r3, Option.bind_some, graC]; exact ⟨rfl, rfl⟩
theorem GN.grow {H0 G G' : GH} {b b2 b3 : Nat} {A : Option Addr} {L c p : Nat} {n : Int} {es es' : List T3} {Ap A' : Option Addr} {cp c' : Nat} (h : GN H0 G b b2 b3 A L c p ⟨n, es⟩ Ap cp) (ho : Own G' A' c' (flat3 es') 3 es'.length) (hs : Sub (wo G Ap) G') (hf : Off (wo G Ap) A') :
    GN H0 (put G' b3 ⟨graC ⟨n, es'⟩ A' c', true⟩) b b2 b3 A L c p ⟨n, es'⟩ A' c' ∧ G' b3 = some ⟨graC ⟨n, es⟩ Ap cp, true⟩ := by
  obtain ⟨q, st, h1, h2⟩ := h.src.ex
  have k : ∀ x e, G x = some e → (∀ a, Ap = some a → a.block ≠ x) → G' x = some e ∧ ∀ a, A' = some a → a.block ≠ x := fun x e hx hne => by
    have hw : wo G Ap x = some e := by rw [wo_ne hne]; exact hx
    refine ⟨hs _ _ hw, fun a ha e' => ?_⟩
    have := hf a ha
    rw [e', hw] at this; cases this
  obtain ⟨kb, ab⟩ := k b _ h2 (fun a ha => (h.da a ha).1)
  obtain ⟨k2, a2⟩ := k b2 _ h.r2 (fun a ha => (h.da a ha).2.1)
  obtain ⟨k3, a3⟩ := k b3 _ h.r3 (fun a ha => (h.da a ha).2.2)
  have s0 : Sub H0 (wo G Ap) := fun x e hx => by
    rw [wo_ne fun a ha e' => by have := h.off a ha; rw [e', hx] at this; cases this]
    exact h.src.sub _ _ hx
  refine ⟨⟨⟨(s0.trans hs).skip h.n3, h.src.nb, h.src.byt, q, st, h1, by rw [put_ne _ _ h.d3.symm]; exact kb⟩, by rw [put_ne _ _ h.d23]; exact k2, put_same _ _ _, ?_, h.n2, h.n3, hf.mono s0, h.d2, h.d3, h.d23, fun a ha => ⟨ab a ha, a2 a ha, a3 a ha⟩⟩, k3⟩
  rcases ho with ho | ⟨x, r, rfl, hx, hr⟩
  · exact .inl ho
  · exact .inr ⟨x, r, rfl, by rw [put_ne _ _ (a3 _ rfl)]; exact hx, hr⟩
theorem GN.set {H0 G : GH} {b b2 b3 : Nat} {A : Option Addr} {L c p : Nat} {n : Int} {es : List T3} {Ap : Option Addr} {cp : Nat} (h : GN H0 G b b2 b3 A L c p ⟨n, es⟩ Ap cp) (n' : Int) : GN H0 (put G b3 ⟨graC ⟨n', es⟩ Ap cp, true⟩) b b2 b3 A L c p ⟨n', es⟩ Ap cp := by
  obtain ⟨q, st, h1, h2⟩ := h.src.ex
  refine ⟨⟨h.src.sub.skip h.n3, h.src.nb, h.src.byt, q, st, h1, by rw [put_ne _ _ h.d3.symm]; exact h2⟩, by rw [put_ne _ _ h.d23]; exact h.r2, put_same _ _ _, ?_, h.n2, h.n3, h.off, h.d2, h.d3, h.d23, h.da⟩
  rcases h.own with ho | ⟨x, r, rfl, hx, hr⟩
  · exact .inl ho
  · exact .inr ⟨x, r, rfl, by rw [put_ne _ _ (h.da _ rfl).2.2]; exact hx, hr⟩
/-- a graph that may be bent: small numbers. -/
structure GSm (N : Gra) : Prop where
  n : 0 ≤ N.n ∧ N.n ≤ 20
  len : N.edges.length ≤ 64
  el : ∀ e ∈ N.edges, (0 ≤ e.1 ∧ e.1 ≤ 100) ∧ (0 ≤ e.2.1 ∧ e.2.1 ≤ 100) ∧ (0 ≤ e.2.2 ∧ e.2.2 ≤ 100)
theorem GSm.snoc {n : Int} {es : List T3} (h : GSm ⟨n, es⟩) (hl : es.length < 64) {a b w : Int} (ha : 0 ≤ a ∧ a ≤ 100) (hb : 0 ≤ b ∧ b ≤ 100) (hw : 0 ≤ w ∧ w ≤ 100) : GSm ⟨n, es ++ [(a, b, w)]⟩ :=
  ⟨h.n, by simp; omega, fun e he => by
    rcases List.mem_append.1 he with h' | h'
    · exact h.el e h'
    · simp at h'; subst h'; exact ⟨ha, hb, hw⟩⟩
theorem st_boxg {G : GH} {b o : Nat} {cs : List Value} {v : Value} {K : Value → GH → Prop} (h : G b = some ⟨cs, true⟩) (h1 : oneB v = true) (ho : o < cs.length) (cs' : List Value) (hc : cs.set o v = cs') (hk : K undef (put G b ⟨cs', true⟩)) : gSt 1 (.pointer (some ⟨b, o, none⟩)) v G K :=
  st_one h ho h1 (by rw [hc]; exact hk)
theorem drawg_l1 {H0 G : GH} {b b2 b3 : Nat} {A : Option Addr} {L c p : Nat} {n : Int} {T : Nat → Value} {Q : Cont} {mn : Int} (hmn : 1 ≤ mn ∧ mn ≤ 9) (hp : p ≤ 2000) (hn : 1 ≤ n ∧ n ≤ 12) (hD : GN H0 G b b2 b3 A L c p ⟨n, []⟩ none 0)
    (x0 : T 0 = .pointer (some ⟨b, 0, none⟩)) (x2 : T 2 = .pointer (some ⟨b2, 0, none⟩)) (x3 : T 3 = .pointer (some ⟨b3, 0, none⟩)) (x4 : T 4 = .int .i64 mn) (x5 : T 5 = .int .i64 0)
    (hQ : ∀ T G' es Ap cp, T 2 = .pointer (some ⟨b2, 0, none⟩) → T 3 = .pointer (some ⟨b3, 0, none⟩) → GSm ⟨n, es⟩ → es.length ≤ 24 → GN H0 G' b b2 b3 A L c (p + 700) ⟨n, es⟩ Ap cp → Q (.ex 0) T G') : gLoop (gW Try.prog c_spec_l16DrawOk_l1) Q T G := by
  refine gLoop_intro (fun m T G' => ∃ (i : Nat) (es : List T3) (Ap : Option Addr) (cp : Nat), T 0 = .pointer (some ⟨b, 0, none⟩) ∧ T 2 = .pointer (some ⟨b2, 0, none⟩) ∧ T 3 = .pointer (some ⟨b3, 0, none⟩) ∧ T 4 = .int .i64 mn ∧ T 5 = .int .i64 i ∧ m + i = n.toNat ∧ i ≤ n.toNat ∧ GSm ⟨n, es⟩ ∧ es.length ≤ 24 ∧ GN H0 G' b b2 b3 A L c (p + 48 * i) ⟨n, es⟩ Ap cp)
    n.toNat ⟨0, [], none, 0, x0, x2, x3, x4, x5, by omega, by omega, ⟨by dsimp only; omega, by simp, fun e he => by simp at he⟩, by simp, hD⟩ ?_
  clear x0 x2 x3 x4 x5 hD
  rintro m T G' ⟨i, es, Ap, cp, x0, x2, x3, x4, x5, hm, him, hA, hl, hD⟩
  obtain ⟨f0, f1⟩ := hD.rd
  dsimp only at f0 f1
  simp (maxSteps := 300000) (disch := omega) only [gs, gs2, gs3, ↓reduceIte, Nat.reduceEqDiff, Nat.mul_one, Nat.add_zero, Nat.zero_add, Nat.zero_mul, Int.toNat_natCast, Int.reduceToNat, Nat.reduceMul, Nat.reduceAdd, decide_true, decide_false, Bool.not_true, Bool.not_false, true_and, and_true, List.map_cons, List.map_nil, List.nil_append, List.cons_append, List.append_nil, Option.map_some, Option.bind_some, List.getElem?_cons_zero, List.getElem?_cons_succ, Bool.false_eq_true, not_true_eq_false, not_false_eq_true, List.contains_cons, List.contains_nil, Nat.reduceBEq, Bool.true_or, Bool.false_or, Bool.or_true, List.set_cons_zero, List.set_cons_succ, List.length_cons, List.length_nil, isLd, Bool.true_and, Bool.false_and, Bool.and_true, Bool.and_false, x0, x2, x3, x4, x5, f0]
  by_cases hi : (i : Int) < n
  · simp (maxSteps := 300000) (disch := omega) only [gs, gs2, gs3, ↓reduceIte, Nat.reduceEqDiff, Nat.mul_one, Nat.add_zero, Nat.zero_add, Nat.zero_mul, Int.toNat_natCast, Int.reduceToNat, Nat.reduceMul, Nat.reduceAdd, decide_true, decide_false, Bool.not_true, Bool.not_false, true_and, and_true, List.map_cons, List.map_nil, List.nil_append, List.cons_append, List.append_nil, Option.map_some, Option.bind_some, List.getElem?_cons_zero, List.getElem?_cons_succ, Bool.false_eq_true, not_true_eq_false, not_false_eq_true, List.contains_cons, List.contains_nil, Nat.reduceBEq, Bool.true_or, Bool.false_or, Bool.or_true, List.set_cons_zero, List.set_cons_succ, List.length_cons, List.length_nil, isLd, Bool.true_and, Bool.false_and, Bool.and_true, Bool.and_false, x0, x2, x3, x4, x5, hi, f0]
    refine gLoop_intro (fun m' T G' => ∃ (j : Nat) (es : List T3) (Ap : Option Addr) (cp : Nat), T 0 = .pointer (some ⟨b, 0, none⟩) ∧ T 2 = .pointer (some ⟨b2, 0, none⟩) ∧ T 3 = .pointer (some ⟨b3, 0, none⟩) ∧ T 4 = .int .i64 mn ∧ T 5 = .int .i64 i ∧ T 6 = .int .i64 j ∧ m' + j = n.toNat ∧ i + 1 ≤ j ∧ j ≤ n.toNat ∧ GSm ⟨n, es⟩ ∧ es.length ≤ 24 ∧ GN H0 G' b b2 b3 A L c (p + 48 * i + 4 * j) ⟨n, es⟩ Ap cp)
      (n.toNat - (i + 1)) ⟨i + 1, es, Ap, cp, by simp (maxSteps := 300000) (disch := omega) only [gs, gs2, gs3, ↓reduceIte, Nat.reduceEqDiff, Nat.mul_one, Nat.add_zero, Nat.zero_add, Nat.zero_mul, Int.toNat_natCast, Int.reduceToNat, Nat.reduceMul, Nat.reduceAdd, decide_true, decide_false, Bool.not_true, Bool.not_false, true_and, and_true, List.map_cons, List.map_nil, List.nil_append, List.cons_append, List.append_nil, Option.map_some, Option.bind_some, List.getElem?_cons_zero, List.getElem?_cons_succ, Bool.false_eq_true, not_true_eq_false, not_false_eq_true, List.contains_cons, List.contains_nil, Nat.reduceBEq, Bool.true_or, Bool.false_or, Bool.or_true, List.set_cons_zero, List.set_cons_succ, List.length_cons, List.length_nil, isLd, Bool.true_and, Bool.false_and, Bool.and_true, Bool.and_false, x0], by simp (maxSteps := 300000) (disch := omega) only [gs, gs2, gs3, ↓reduceIte, Nat.reduceEqDiff, Nat.mul_one, Nat.add_zero, Nat.zero_add, Nat.zero_mul, Int.toNat_natCast, Int.reduceToNat, Nat.reduceMul, Nat.reduceAdd, decide_true, decide_false, Bool.not_true, Bool.not_false, true_and, and_true, List.map_cons, List.map_nil, List.nil_append, List.cons_append, List.append_nil, Option.map_some, Option.bind_some, List.getElem?_cons_zero, List.getElem?_cons_succ, Bool.false_eq_true, not_true_eq_false, not_false_eq_true, List.contains_cons, List.contains_nil, Nat.reduceBEq, Bool.true_or, Bool.false_or, Bool.or_true, List.set_cons_zero, List.set_cons_succ, List.length_cons, List.length_nil, isLd, Bool.true_and, Bool.false_and, Bool.and_true, Bool.and_false, x2], by simp (maxSteps := 300000) (disch := omega) only [gs, gs2, gs3, ↓reduceIte, Nat.reduceEqDiff, Nat.mul_one, Nat.add_zero, Nat.zero_add, Nat.zero_mul, Int.toNat_natCast, Int.reduceToNat, Nat.reduceMul, Nat.reduceAdd, decide_true, decide_false, Bool.not_true, Bool.not_false, true_and, and_true, List.map_cons, List.map_nil, List.nil_append, List.cons_append, List.append_nil, Option.map_some, Option.bind_some, List.getElem?_cons_zero, List.getElem?_cons_succ, Bool.false_eq_true, not_true_eq_false, not_false_eq_true, List.contains_cons, List.contains_nil, Nat.reduceBEq, Bool.true_or, Bool.false_or, Bool.or_true, List.set_cons_zero, List.set_cons_succ, List.length_cons, List.length_nil, isLd, Bool.true_and, Bool.false_and, Bool.and_true, Bool.and_false, x3], by simp (maxSteps := 300000) (disch := omega) only [gs, gs2, gs3, ↓reduceIte, Nat.reduceEqDiff, Nat.mul_one, Nat.add_zero, Nat.zero_add, Nat.zero_mul, Int.toNat_natCast, Int.reduceToNat, Nat.reduceMul, Nat.reduceAdd, decide_true, decide_false, Bool.not_true, Bool.not_false, true_and, and_true, List.map_cons, List.map_nil, List.nil_append, List.cons_append, List.append_nil, Option.map_some, Option.bind_some, List.getElem?_cons_zero, List.getElem?_cons_succ, Bool.false_eq_true, not_true_eq_false, not_false_eq_true, List.contains_cons, List.contains_nil, Nat.reduceBEq, Bool.true_or, Bool.false_or, Bool.or_true, List.set_cons_zero, List.set_cons_succ, List.length_cons, List.length_nil, isLd, Bool.true_and, Bool.false_and, Bool.and_true, Bool.and_false, x4], by simp (maxSteps := 300000) (disch := omega) only [gs, gs2, gs3, ↓reduceIte, Nat.reduceEqDiff, Nat.mul_one, Nat.add_zero, Nat.zero_add, Nat.zero_mul, Int.toNat_natCast, Int.reduceToNat, Nat.reduceMul, Nat.reduceAdd, decide_true, decide_false, Bool.not_true, Bool.not_false, true_and, and_true, List.map_cons, List.map_nil, List.nil_append, List.cons_append, List.append_nil, Option.map_some, Option.bind_some, List.getElem?_cons_zero, List.getElem?_cons_succ, Bool.false_eq_true, not_true_eq_false, not_false_eq_true, List.contains_cons, List.contains_nil, Nat.reduceBEq, Bool.true_or, Bool.false_or, Bool.or_true, List.set_cons_zero, List.set_cons_succ, List.length_cons, List.length_nil, isLd, Bool.true_and, Bool.false_and, Bool.and_true, Bool.and_false, x5], by simp (maxSteps := 300000) (disch := omega) only [gs, gs2, gs3, ↓reduceIte, Nat.reduceEqDiff, Nat.mul_one, Nat.add_zero, Nat.zero_add, Nat.zero_mul, Int.toNat_natCast, Int.reduceToNat, Nat.reduceMul, Nat.reduceAdd, decide_true, decide_false, Bool.not_true, Bool.not_false, true_and, and_true, List.map_cons, List.map_nil, List.nil_append, List.cons_append, List.append_nil, Option.map_some, Option.bind_some, List.getElem?_cons_zero, List.getElem?_cons_succ, Bool.false_eq_true, not_true_eq_false, not_false_eq_true, List.contains_cons, List.contains_nil, Nat.reduceBEq, Bool.true_or, Bool.false_or, Bool.or_true, List.set_cons_zero, List.set_cons_succ, List.length_cons, List.length_nil, isLd, Bool.true_and, Bool.false_and, Bool.and_true, Bool.and_false] <;> rfl, by omega, by omega, by omega, hA, hl, hD.le (by omega)⟩ ?_
    clear x0 x2 x3 x4 x5 hD hA f0 f1 hl
    rintro m' T G' ⟨j, es, Ap, cp, x0, x2, x3, x4, x5, x6, hm', hij, hjm, hA, hl, hD⟩
    obtain ⟨f0, f1⟩ := hD.rd
    dsimp only at f0 f1
    simp (maxSteps := 300000) (disch := omega) only [gs, gs2, gs3, ↓reduceIte, Nat.reduceEqDiff, Nat.mul_one, Nat.add_zero, Nat.zero_add, Nat.zero_mul, Int.toNat_natCast, Int.reduceToNat, Nat.reduceMul, Nat.reduceAdd, decide_true, decide_false, Bool.not_true, Bool.not_false, true_and, and_true, List.map_cons, List.map_nil, List.nil_append, List.cons_append, List.append_nil, Option.map_some, Option.bind_some, List.getElem?_cons_zero, List.getElem?_cons_succ, Bool.false_eq_true, not_true_eq_false, not_false_eq_true, List.contains_cons, List.contains_nil, Nat.reduceBEq, Bool.true_or, Bool.false_or, Bool.or_true, List.set_cons_zero, List.set_cons_succ, List.length_cons, List.length_nil, isLd, Bool.true_and, Bool.false_and, Bool.and_true, Bool.and_false, x0, x2, x3, x4, x5, x6, f0]
    by_cases hj : (j : Int) < n
    · simp (maxSteps := 300000) (disch := omega) only [gs, gs2, gs3, ↓reduceIte, Nat.reduceEqDiff, Nat.mul_one, Nat.add_zero, Nat.zero_add, Nat.zero_mul, Int.toNat_natCast, Int.reduceToNat, Nat.reduceMul, Nat.reduceAdd, decide_true, decide_false, Bool.not_true, Bool.not_false, true_and, and_true, List.map_cons, List.map_nil, List.nil_append, List.cons_append, List.append_nil, Option.map_some, Option.bind_some, List.getElem?_cons_zero, List.getElem?_cons_succ, Bool.false_eq_true, not_true_eq_false, not_false_eq_true, List.contains_cons, List.contains_nil, Nat.reduceBEq, Bool.true_or, Bool.false_or, Bool.or_true, List.set_cons_zero, List.set_cons_succ, List.length_cons, List.length_nil, isLd, Bool.true_and, Bool.false_and, Bool.and_true, Bool.and_false, x0, x2, x3, x4, x5, x6, hj, f0]
      refine spec_one_ok hD.src.all (by omega) (n := mn) (by omega) fun v G2 s2 => ?_
      have hD2 := hD.step s2
      obtain ⟨f0, f1⟩ := hD2.rd
      dsimp only at f0 f1
      have keep : GN H0 G2 b b2 b3 A L c (p + 48 * i + 4 * (j + 1)) ⟨n, es⟩ Ap cp := hD2.le (by omega)
      cases v
      · simp (maxSteps := 300000) (disch := omega) only [gs, gs2, gs3, ↓reduceIte, Nat.reduceEqDiff, Nat.mul_one, Nat.add_zero, Nat.zero_add, Nat.zero_mul, Int.toNat_natCast, Int.reduceToNat, Nat.reduceMul, Nat.reduceAdd, decide_true, decide_false, Bool.not_true, Bool.not_false, true_and, and_true, List.map_cons, List.map_nil, List.nil_append, List.cons_append, List.append_nil, Option.map_some, Option.bind_some, List.getElem?_cons_zero, List.getElem?_cons_succ, Bool.false_eq_true, not_true_eq_false, not_false_eq_true, List.contains_cons, List.contains_nil, Nat.reduceBEq, Bool.true_or, Bool.false_or, Bool.or_true, List.set_cons_zero, List.set_cons_succ, List.length_cons, List.length_nil, isLd, Bool.true_and, Bool.false_and, Bool.and_true, Bool.and_false, x0, x2, x3, x4, x5, x6, f0, f1]
        by_cases hl2 : (es.length : Int) < 24
        · simp (maxSteps := 300000) (disch := omega) only [gs, gs2, gs3, ↓reduceIte, Nat.reduceEqDiff, Nat.mul_one, Nat.add_zero, Nat.zero_add, Nat.zero_mul, Int.toNat_natCast, Int.reduceToNat, Nat.reduceMul, Nat.reduceAdd, decide_true, decide_false, Bool.not_true, Bool.not_false, true_and, and_true, List.map_cons, List.map_nil, List.nil_append, List.cons_append, List.append_nil, Option.map_some, Option.bind_some, List.getElem?_cons_zero, List.getElem?_cons_succ, Bool.false_eq_true, not_true_eq_false, not_false_eq_true, List.contains_cons, List.contains_nil, Nat.reduceBEq, Bool.true_or, Bool.false_or, Bool.or_true, List.set_cons_zero, List.set_cons_succ, List.length_cons, List.length_nil, isLd, Bool.true_and, Bool.false_and, Bool.and_true, Bool.and_false, hl2, x0, x2, x3, x4, x5, x6, f0, f1, gBs]
          refine ⟨by intro v hv; simp at hv; rcases hv with rfl | rfl | rfl | rfl | rfl <;> rfl, fun bx hbx => ?_⟩
          have hDx := hD2.box hbx ⟨[1, 1, 2, 3, 9].map I64, true⟩
          have hbb : bx ≠ b := hD2.src.ne hbx
          have hxl : IntS (del (put G2 bx ⟨[1, 1, 2, 3, 9].map I64, true⟩) b) (some ⟨bx, 0, none⟩) 5 [1, 1, 2, 3, 9] := blk_ints (xs := [1, 1, 2, 3, 9]) (by rw [del_ne _ hbb]; exact put_same _ _ _)
          refine ⟨hDx.rd.2, ?_⟩
          refine spec_among_ok (xs := [1, 1, 2, 3, 9]) hDx.src.all (by omega) hxl (by simp) (by simp) fun w G3 hw s3 => ?_
          have hw : 0 ≤ w ∧ w ≤ 100 := by simp at hw; omega
          have hD3 := hDx.step s3
          obtain ⟨f0, f1⟩ := hD3.rd
          dsimp only at f0 f1
          have hbl : bldV [.int .i64 0, .int .i64 0, .int .i64 0] [(0, 1, .int .i64 (i : Int)), (1, 1, .int .i64 (j : Int)), (2, 1, .int .i64 w)] = some [.int .i64 (i : Int), .int .i64 (j : Int), .int .i64 w] := rfl
          simp (maxSteps := 300000) (disch := omega) only [gs, gs2, gs3, ↓reduceIte, Nat.reduceEqDiff, Nat.mul_one, Nat.add_zero, Nat.zero_add, Nat.zero_mul, Int.toNat_natCast, Int.reduceToNat, Nat.reduceMul, Nat.reduceAdd, decide_true, decide_false, Bool.not_true, Bool.not_false, true_and, and_true, List.map_cons, List.map_nil, List.nil_append, List.cons_append, List.append_nil, Option.map_some, Option.bind_some, List.getElem?_cons_zero, List.getElem?_cons_succ, Bool.false_eq_true, not_true_eq_false, not_false_eq_true, List.contains_cons, List.contains_nil, Nat.reduceBEq, Bool.true_or, Bool.false_or, Bool.or_true, List.set_cons_zero, List.set_cons_succ, List.length_cons, List.length_nil, isLd, Bool.true_and, Bool.false_and, Bool.and_true, Bool.and_false, x0, x2, x3, x4, x5, x6, f0, f1, hbl, gBs]
          refine ⟨by intro v hv; simp at hv; subst hv; rfl, fun by' hby => ?_⟩
          have hDy := hD3.box hby ⟨[.int .i64 (i : Int), .int .i64 (j : Int), .int .i64 w], true⟩
          refine ⟨hDy.rd.2, ?_⟩
          refine ap_own hDy.own (cells_one [.int .i64 (i : Int), .int .i64 (j : Int), .int .i64 w] true) (by rfl) (by intro v hv; simp at hv; rcases hv with rfl | rfl | rfl <;> rfl) rfl (by omega) (by omega) (by omega) fun G5 A5 c5 hO5 hG5 => ?_
          obtain ⟨t1, t2⟩ := hG5 _ (Sub.wo _ _) (Off.wo _ _)
          have hfl : flat3 es ++ [.int .i64 (i : Int), .int .i64 (j : Int), .int .i64 w] = flat3 (es ++ [((i : Int), (j : Int), w)]) := by simp [flat3, c3]
          obtain ⟨hD6, e5⟩ := hDy.grow (es' := es ++ [((i : Int), (j : Int), w)]) (hO5.cast hfl (by simp)) t1 t2
          simp (maxSteps := 300000) (disch := omega) only [gs, gs2, gs3, ↓reduceIte, Nat.reduceEqDiff, Nat.mul_one, Nat.add_zero, Nat.zero_add, Nat.zero_mul, Int.toNat_natCast, Int.reduceToNat, Nat.reduceMul, Nat.reduceAdd, decide_true, decide_false, Bool.not_true, Bool.not_false, true_and, and_true, List.map_cons, List.map_nil, List.nil_append, List.cons_append, List.append_nil, Option.map_some, Option.bind_some, List.getElem?_cons_zero, List.getElem?_cons_succ, Bool.false_eq_true, not_true_eq_false, not_false_eq_true, List.contains_cons, List.contains_nil, Nat.reduceBEq, Bool.true_or, Bool.false_or, Bool.or_true, List.set_cons_zero, List.set_cons_succ, List.length_cons, List.length_nil, isLd, Bool.true_and, Bool.false_and, Bool.and_true, Bool.and_false, x0, x2, x3, x4, x5, x6]
          refine st_boxg e5 rfl (by simp [graC]) _ rfl ?_
          simp (maxSteps := 300000) (disch := omega) only [gs, gs2, gs3, ↓reduceIte, Nat.reduceEqDiff, Nat.mul_one, Nat.add_zero, Nat.zero_add, Nat.zero_mul, Int.toNat_natCast, Int.reduceToNat, Nat.reduceMul, Nat.reduceAdd, decide_true, decide_false, Bool.not_true, Bool.not_false, true_and, and_true, List.map_cons, List.map_nil, List.nil_append, List.cons_append, List.append_nil, Option.map_some, Option.bind_some, List.getElem?_cons_zero, List.getElem?_cons_succ, Bool.false_eq_true, not_true_eq_false, not_false_eq_true, List.contains_cons, List.contains_nil, Nat.reduceBEq, Bool.true_or, Bool.false_or, Bool.or_true, List.set_cons_zero, List.set_cons_succ, List.length_cons, List.length_nil, isLd, Bool.true_and, Bool.false_and, Bool.and_true, Bool.and_false, x0, x2, x3, x4, x5, x6]
          exact ⟨m' - 1, by omega, _, Sub.refl _, j + 1, es ++ [((i : Int), (j : Int), w)], A5, c5, rfl, by omega, by omega, by omega, hA.snoc (by omega) ⟨by omega, by omega⟩ ⟨by omega, by omega⟩ hw, by simp; omega, by
            have := hD6.le (p' := p + 48 * i + 4 * (j + 1)) (by omega)
            simpa [graC] using this⟩
        · simp (maxSteps := 300000) (disch := omega) only [gs, gs2, gs3, ↓reduceIte, Nat.reduceEqDiff, Nat.mul_one, Nat.add_zero, Nat.zero_add, Nat.zero_mul, Int.toNat_natCast, Int.reduceToNat, Nat.reduceMul, Nat.reduceAdd, decide_true, decide_false, Bool.not_true, Bool.not_false, true_and, and_true, List.map_cons, List.map_nil, List.nil_append, List.cons_append, List.append_nil, Option.map_some, Option.bind_some, List.getElem?_cons_zero, List.getElem?_cons_succ, Bool.false_eq_true, not_true_eq_false, not_false_eq_true, List.contains_cons, List.contains_nil, Nat.reduceBEq, Bool.true_or, Bool.false_or, Bool.or_true, List.set_cons_zero, List.set_cons_succ, List.length_cons, List.length_nil, isLd, Bool.true_and, Bool.false_and, Bool.and_true, Bool.and_false, hl2, x0, x2, x3, x4, x5, x6, f0, f1]
          exact ⟨m' - 1, by omega, _, Sub.refl _, j + 1, es, Ap, cp, rfl, by omega, by omega, by omega, hA, hl, keep⟩
      · simp (maxSteps := 300000) (disch := omega) only [gs, gs2, gs3, ↓reduceIte, Nat.reduceEqDiff, Nat.mul_one, Nat.add_zero, Nat.zero_add, Nat.zero_mul, Int.toNat_natCast, Int.reduceToNat, Nat.reduceMul, Nat.reduceAdd, decide_true, decide_false, Bool.not_true, Bool.not_false, true_and, and_true, List.map_cons, List.map_nil, List.nil_append, List.cons_append, List.append_nil, Option.map_some, Option.bind_some, List.getElem?_cons_zero, List.getElem?_cons_succ, Bool.false_eq_true, not_true_eq_false, not_false_eq_true, List.contains_cons, List.contains_nil, Nat.reduceBEq, Bool.true_or, Bool.false_or, Bool.or_true, List.set_cons_zero, List.set_cons_succ, List.length_cons, List.length_nil, isLd, Bool.true_and, Bool.false_and, Bool.and_true, Bool.and_false, x0, x2, x3, x4, x5, x6, f0, f1]
        exact ⟨m' - 1, by omega, _, Sub.refl _, j + 1, es, Ap, cp, rfl, by omega, by omega, by omega, hA, hl, keep⟩
    · simp (maxSteps := 300000) (disch := omega) only [gs, gs2, gs3, ↓reduceIte, Nat.reduceEqDiff, Nat.mul_one, Nat.add_zero, Nat.zero_add, Nat.zero_mul, Int.toNat_natCast, Int.reduceToNat, Nat.reduceMul, Nat.reduceAdd, decide_true, decide_false, Bool.not_true, Bool.not_false, true_and, and_true, List.map_cons, List.map_nil, List.nil_append, List.cons_append, List.append_nil, Option.map_some, Option.bind_some, List.getElem?_cons_zero, List.getElem?_cons_succ, Bool.false_eq_true, not_true_eq_false, not_false_eq_true, List.contains_cons, List.contains_nil, Nat.reduceBEq, Bool.true_or, Bool.false_or, Bool.or_true, List.set_cons_zero, List.set_cons_succ, List.length_cons, List.length_nil, isLd, Bool.true_and, Bool.false_and, Bool.and_true, Bool.and_false, x0, x2, x3, x4, x5, x6, hj, f0]
      obtain rfl : j = n.toNat := by omega
      exact ⟨m - 1, by omega, _, Sub.refl _, i + 1, es, Ap, cp, rfl, by omega, by omega, hA, hl, hD.le (by omega)⟩
  · simp (maxSteps := 300000) (disch := omega) only [gs, gs2, gs3, ↓reduceIte, Nat.reduceEqDiff, Nat.mul_one, Nat.add_zero, Nat.zero_add, Nat.zero_mul, Int.toNat_natCast, Int.reduceToNat, Nat.reduceMul, Nat.reduceAdd, decide_true, decide_false, Bool.not_true, Bool.not_false, true_and, and_true, List.map_cons, List.map_nil, List.nil_append, List.cons_append, List.append_nil, Option.map_some, Option.bind_some, List.getElem?_cons_zero, List.getElem?_cons_succ, Bool.false_eq_true, not_true_eq_false, not_false_eq_true, List.contains_cons, List.contains_nil, Nat.reduceBEq, Bool.true_or, Bool.false_or, Bool.or_true, List.set_cons_zero, List.set_cons_succ, List.length_cons, List.length_nil, isLd, Bool.true_and, Bool.false_and, Bool.and_true, Bool.and_false, x0, x2, x3, x4, x5, hi, f0]
    obtain rfl : i = n.toNat := by omega
    exact hQ _ _ es Ap cp (by simp (maxSteps := 300000) (disch := omega) only [gs, gs2, gs3, ↓reduceIte, Nat.reduceEqDiff, Nat.mul_one, Nat.add_zero, Nat.zero_add, Nat.zero_mul, Int.toNat_natCast, Int.reduceToNat, Nat.reduceMul, Nat.reduceAdd, decide_true, decide_false, Bool.not_true, Bool.not_false, true_and, and_true, List.map_cons, List.map_nil, List.nil_append, List.cons_append, List.append_nil, Option.map_some, Option.bind_some, List.getElem?_cons_zero, List.getElem?_cons_succ, Bool.false_eq_true, not_true_eq_false, not_false_eq_true, List.contains_cons, List.contains_nil, Nat.reduceBEq, Bool.true_or, Bool.false_or, Bool.or_true, List.set_cons_zero, List.set_cons_succ, List.length_cons, List.length_nil, isLd, Bool.true_and, Bool.false_and, Bool.and_true, Bool.and_false, x2]) (by simp (maxSteps := 300000) (disch := omega) only [gs, gs2, gs3, ↓reduceIte, Nat.reduceEqDiff, Nat.mul_one, Nat.add_zero, Nat.zero_add, Nat.zero_mul, Int.toNat_natCast, Int.reduceToNat, Nat.reduceMul, Nat.reduceAdd, decide_true, decide_false, Bool.not_true, Bool.not_false, true_and, and_true, List.map_cons, List.map_nil, List.nil_append, List.cons_append, List.append_nil, Option.map_some, Option.bind_some, List.getElem?_cons_zero, List.getElem?_cons_succ, Bool.false_eq_true, not_true_eq_false, not_false_eq_true, List.contains_cons, List.contains_nil, Nat.reduceBEq, Bool.true_or, Bool.false_or, Bool.or_true, List.set_cons_zero, List.set_cons_succ, List.length_cons, List.length_nil, isLd, Bool.true_and, Bool.false_and, Bool.and_true, Bool.and_false, x3]) hA hl (hD.le (by omega))
theorem spec_l16DrawOk_ok {H0 G : GH} {b : Nat} {A : Option Addr} {L c p : Nat} (h : Src H0 G b A L c p) (hp : p ≤ 1000) {K : Value → GH → Prop}
    (hk : ∀ G' N Ap cp, GSm N → N.edges.length ≤ 24 → Own G' Ap cp (flat3 N.edges) 3 N.edges.length → Off H0 Ap → (∀ a, Ap = some a → a.block ≠ b) → Src H0 G' b A L c (p + 710) → K (graV N Ap cp) G') : GC Try.prog 219 [.pointer (some ⟨b, 0, none⟩)] G K := by
  refine c_spec_l16DrawOk_i (by simp) ?_
  simp (maxSteps := 300000) (disch := omega) only [gs, gs2, gs3, ↓reduceIte, Nat.reduceEqDiff, Nat.mul_one, Nat.add_zero, Nat.zero_add, Nat.zero_mul, Int.toNat_natCast, Int.reduceToNat, Nat.reduceMul, Nat.reduceAdd, decide_true, decide_false, Bool.not_true, Bool.not_false, true_and, and_true, List.map_cons, List.map_nil, List.nil_append, List.cons_append, List.append_nil, Option.map_some, Option.bind_some, List.getElem?_cons_zero, List.getElem?_cons_succ, Bool.false_eq_true, not_true_eq_false, not_false_eq_true, List.contains_cons, List.contains_nil, Nat.reduceBEq, Bool.true_or, Bool.false_or, Bool.or_true, List.set_cons_zero, List.set_cons_succ, List.length_cons, List.length_nil, isLd, Bool.true_and, Bool.false_and, Bool.and_true, Bool.and_false]
  intro b2 hb2
  simp (maxSteps := 300000) (disch := omega) only [gs, gs2, gs3, ↓reduceIte, Nat.reduceEqDiff, Nat.mul_one, Nat.add_zero, Nat.zero_add, Nat.zero_mul, Int.toNat_natCast, Int.reduceToNat, Nat.reduceMul, Nat.reduceAdd, decide_true, decide_false, Bool.not_true, Bool.not_false, true_and, and_true, List.map_cons, List.map_nil, List.nil_append, List.cons_append, List.append_nil, Option.map_some, Option.bind_some, List.getElem?_cons_zero, List.getElem?_cons_succ, Bool.false_eq_true, not_true_eq_false, not_false_eq_true, List.contains_cons, List.contains_nil, Nat.reduceBEq, Bool.true_or, Bool.false_or, Bool.or_true, List.set_cons_zero, List.set_cons_succ, List.length_cons, List.length_nil, isLd, Bool.true_and, Bool.false_and, Bool.and_true, Bool.and_false]
  have h2 := h.box hb2 ⟨z2, true⟩
  have d2 := h.ne hb2
  have nn2 := h.sub.none hb2
  have h2' := h2.low (Sub.put nn2 _) h.byt
  refine spec_pick_ok h2'.all (by omega) (n := 6) (by omega) fun v G1 v0 v1 _ s1 => ?_
  have v1 := v1 (by omega)
  have hs := s1.sub
  have e2 : G1 b2 = some ⟨z2, true⟩ := hs _ _ (by rw [del_ne _ d2]; exact put_same _ _ _)
  have sH : Sub H0 G1 := (h2'.sub.in_del h.nb).trans hs
  have s1' : Src H0 G1 b A L c (p + 2) := ⟨sH, h.nb, h.byt, s1.ex⟩
  simp (maxSteps := 300000) (disch := omega) only [gs, gs2, gs3, ↓reduceIte, Nat.reduceEqDiff, Nat.mul_one, Nat.add_zero, Nat.zero_add, Nat.zero_mul, Int.toNat_natCast, Int.reduceToNat, Nat.reduceMul, Nat.reduceAdd, decide_true, decide_false, Bool.not_true, Bool.not_false, true_and, and_true, List.map_cons, List.map_nil, List.nil_append, List.cons_append, List.append_nil, Option.map_some, Option.bind_some, List.getElem?_cons_zero, List.getElem?_cons_succ, Bool.false_eq_true, not_true_eq_false, not_false_eq_true, List.contains_cons, List.contains_nil, Nat.reduceBEq, Bool.true_or, Bool.false_or, Bool.or_true, List.set_cons_zero, List.set_cons_succ, List.length_cons, List.length_nil, isLd, Bool.true_and, Bool.false_and, Bool.and_true, Bool.and_false]
  intro b3 hb3
  simp (maxSteps := 300000) (disch := omega) only [gs, gs2, gs3, ↓reduceIte, Nat.reduceEqDiff, Nat.mul_one, Nat.add_zero, Nat.zero_add, Nat.zero_mul, Int.toNat_natCast, Int.reduceToNat, Nat.reduceMul, Nat.reduceAdd, decide_true, decide_false, Bool.not_true, Bool.not_false, true_and, and_true, List.map_cons, List.map_nil, List.nil_append, List.cons_append, List.append_nil, Option.map_some, Option.bind_some, List.getElem?_cons_zero, List.getElem?_cons_succ, Bool.false_eq_true, not_true_eq_false, not_false_eq_true, List.contains_cons, List.contains_nil, Nat.reduceBEq, Bool.true_or, Bool.false_or, Bool.or_true, List.set_cons_zero, List.set_cons_succ, List.length_cons, List.length_nil, isLd, Bool.true_and, Bool.false_and, Bool.and_true, Bool.and_false]
  refine st_fresh (vs := [.int .i64 (1 + v), .slice none 0 0]) rfl rfl rfl (by intro v hv; simp at hv; rcases hv with rfl | rfl <;> rfl) ?_
  have d3 := s1'.ne hb3
  have d23 : b2 ≠ b3 := blk_ne e2 hb3
  obtain ⟨n, hn⟩ : ∃ n, n = 1 + v := ⟨_, rfl⟩
  rw [← hn]
  have hD : GN H0 (put G1 b3 ⟨graC ⟨n, []⟩ none 0, true⟩) b b2 b3 A L c (p + 2) ⟨n, []⟩ none 0 := by
    obtain ⟨q, st, g1, g2⟩ := s1'.ex
    exact ⟨⟨sH.trans (Sub.put hb3 _), h.nb, h.byt, q, st, g1, by rw [put_ne _ _ d3.symm]; exact g2⟩, by rw [put_ne _ _ d23]; exact e2, put_same _ _ _, Own.nil _ _, nn2, sH.none hb3, Off.nil _, d2, d3, d23, fun a ha => by cases ha⟩
  have e4 : put G1 b3 ⟨[.int .i64 n, .slice none 0 0], true⟩ = put G1 b3 ⟨graC ⟨n, []⟩ none 0, true⟩ := rfl
  rw [e4]
  clear e4
  revert hD
  generalize put G1 b3 ⟨graC ⟨n, []⟩ none 0, true⟩ = G4
  intro hD
  have fin : ∀ (n : Int) (T : Nat → Value) (G5 : GH) (es : List T3) (Ap : Option Addr) (cp p' : Nat), p' ≤ p + 710 → GSm ⟨n, es⟩ → es.length ≤ 24 → GN H0 G5 b b2 b3 A L c p' ⟨n, es⟩ Ap cp → T 2 = .pointer (some ⟨b2, 0, none⟩) → T 3 = .pointer (some ⟨b3, 0, none⟩) →
      gW Try.prog (.seq (.reg c_spec_l16DrawOk_16) .ret) (RetK [RV.cn 2 2] K) T G5 := fun n T G5 es Ap cp p' hp' hA hl hD x2 x3 => by
    obtain ⟨f0, f1⟩ := hD.rd
    dsimp only at f0 f1
    simp (maxSteps := 300000) (disch := omega) only [gs, gs2, gs3, ↓reduceIte, Nat.reduceEqDiff, Nat.mul_one, Nat.add_zero, Nat.zero_add, Nat.zero_mul, Int.toNat_natCast, Int.reduceToNat, Nat.reduceMul, Nat.reduceAdd, decide_true, decide_false, Bool.not_true, Bool.not_false, true_and, and_true, List.map_cons, List.map_nil, List.nil_append, List.cons_append, List.append_nil, Option.map_some, Option.bind_some, List.getElem?_cons_zero, List.getElem?_cons_succ, Bool.false_eq_true, not_true_eq_false, not_false_eq_true, List.contains_cons, List.contains_nil, Nat.reduceBEq, Bool.true_or, Bool.false_or, Bool.or_true, List.set_cons_zero, List.set_cons_succ, List.length_cons, List.length_nil, isLd, Bool.true_and, Bool.false_and, Bool.and_true, Bool.and_false, x2, x3, f0, f1]
    refine st_many (vs := graC ⟨n, es⟩ Ap cp) rfl hD.r2 rfl (by simp [z2, graC]) (by intro v hv; simp [graC] at hv; rcases hv with rfl | rfl <;> rfl) ?_
    rw [show over z2 0 (graC ⟨n, es⟩ Ap cp) = graC ⟨n, es⟩ Ap cp from rfl]
    have hlast : K (graV ⟨n, es⟩ Ap cp) (put G5 b2 ⟨graC ⟨n, es⟩ Ap cp, true⟩) := by
      obtain ⟨q, st, g1, g2⟩ := hD.src.ex
      refine hk _ _ _ _ hA hl ?_ hD.off (fun a ha => (hD.da a ha).1) ⟨hD.src.sub.skip hD.n2, hD.src.nb, hD.src.byt, q, st, by omega, by rw [put_ne _ _ hD.d2.symm]; exact g2⟩
      rcases hD.own with ho | ⟨x, r, rfl, hx, hr⟩
      · exact .inl ho
      · exact .inr ⟨x, r, rfl, by rw [put_ne _ _ (hD.da _ rfl).2.1]; exact hx, hr⟩
    have q0 : rd (put G5 b2 ⟨graC ⟨n, es⟩ Ap cp, true⟩) (some ⟨b2, 0, none⟩) = some (.int .i64 n) := rd_box _ _ _ 0 _ rfl
    have q1 : rd (put G5 b2 ⟨graC ⟨n, es⟩ Ap cp, true⟩) (some ⟨b2, 1, none⟩) = some (.slice Ap es.length cp) := rd_box _ _ _ 1 _ rfl
    simp (maxSteps := 300000) (disch := omega) only [gs, gs2, gs3, ↓reduceIte, Nat.reduceEqDiff, Nat.mul_one, Nat.add_zero, Nat.zero_add, Nat.zero_mul, Int.toNat_natCast, Int.reduceToNat, Nat.reduceMul, Nat.reduceAdd, decide_true, decide_false, Bool.not_true, Bool.not_false, true_and, and_true, List.map_cons, List.map_nil, List.nil_append, List.cons_append, List.append_nil, Option.map_some, Option.bind_some, List.getElem?_cons_zero, List.getElem?_cons_succ, Bool.false_eq_true, not_true_eq_false, not_false_eq_true, List.contains_cons, List.contains_nil, Nat.reduceBEq, Bool.true_or, Bool.false_or, Bool.or_true, List.set_cons_zero, List.set_cons_succ, List.length_cons, List.length_nil, isLd, Bool.true_and, Bool.false_and, Bool.and_true, Bool.and_false, x2, x3, q0, q1]
    exact hlast
  simp (maxSteps := 300000) (disch := omega) only [gs, gs2, gs3, ↓reduceIte, Nat.reduceEqDiff, Nat.mul_one, Nat.add_zero, Nat.zero_add, Nat.zero_mul, Int.toNat_natCast, Int.reduceToNat, Nat.reduceMul, Nat.reduceAdd, decide_true, decide_false, Bool.not_true, Bool.not_false, true_and, and_true, List.map_cons, List.map_nil, List.nil_append, List.cons_append, List.append_nil, Option.map_some, Option.bind_some, List.getElem?_cons_zero, List.getElem?_cons_succ, Bool.false_eq_true, not_true_eq_false, not_false_eq_true, List.contains_cons, List.contains_nil, Nat.reduceBEq, Bool.true_or, Bool.false_or, Bool.or_true, List.set_cons_zero, List.set_cons_succ, List.length_cons, List.length_nil, isLd, Bool.true_and, Bool.false_and, Bool.and_true, Bool.and_false, gBs]
  refine ⟨by intro v hv; simp at hv; rcases hv with rfl | rfl | rfl | rfl <;> rfl, fun bx hbx => ?_⟩
  have hDx := hD.box hbx ⟨[2, 2, 3, 9].map I64, true⟩
  have hbb : bx ≠ b := hD.src.ne hbx
  have hxl : IntS (del (put G4 bx ⟨[2, 2, 3, 9].map I64, true⟩) b) (some ⟨bx, 0, none⟩) 4 [2, 2, 3, 9] := blk_ints (xs := [2, 2, 3, 9]) (by rw [del_ne _ hbb]; exact put_same _ _ _)
  refine spec_among_ok (xs := [2, 2, 3, 9]) hDx.src.all (by omega) hxl (by simp) (by simp) fun mn G5 hmn s5 => ?_
  have hmn : 1 ≤ mn ∧ mn ≤ 9 := by simp at hmn; omega
  have hD := hDx.step s5
  simp (maxSteps := 300000) (disch := omega) only [gs, gs2, gs3, ↓reduceIte, Nat.reduceEqDiff, Nat.mul_one, Nat.add_zero, Nat.zero_add, Nat.zero_mul, Int.toNat_natCast, Int.reduceToNat, Nat.reduceMul, Nat.reduceAdd, decide_true, decide_false, Bool.not_true, Bool.not_false, true_and, and_true, List.map_cons, List.map_nil, List.nil_append, List.cons_append, List.append_nil, Option.map_some, Option.bind_some, List.getElem?_cons_zero, List.getElem?_cons_succ, Bool.false_eq_true, not_true_eq_false, not_false_eq_true, List.contains_cons, List.contains_nil, Nat.reduceBEq, Bool.true_or, Bool.false_or, Bool.or_true, List.set_cons_zero, List.set_cons_succ, List.length_cons, List.length_nil, isLd, Bool.true_and, Bool.false_and, Bool.and_true, Bool.and_false]
  refine spec_one_ok hD.src.all (by omega) (n := 14) (by omega) fun w G7 s7 => ?_
  have hD := hD.step s7
  cases w
  · simp (maxSteps := 300000) (disch := omega) only [gs, gs2, gs3, ↓reduceIte, Nat.reduceEqDiff, Nat.mul_one, Nat.add_zero, Nat.zero_add, Nat.zero_mul, Int.toNat_natCast, Int.reduceToNat, Nat.reduceMul, Nat.reduceAdd, decide_true, decide_false, Bool.not_true, Bool.not_false, true_and, and_true, List.map_cons, List.map_nil, List.nil_append, List.cons_append, List.append_nil, Option.map_some, Option.bind_some, List.getElem?_cons_zero, List.getElem?_cons_succ, Bool.false_eq_true, not_true_eq_false, not_false_eq_true, List.contains_cons, List.contains_nil, Nat.reduceBEq, Bool.true_or, Bool.false_or, Bool.or_true, List.set_cons_zero, List.set_cons_succ, List.length_cons, List.length_nil, isLd, Bool.true_and, Bool.false_and, Bool.and_true, Bool.and_false]
    refine drawg_l1 (p := p + 2 + 2 + 2) hmn (by omega) (by omega) hD (by simp (maxSteps := 300000) (disch := omega) only [gs, gs2, gs3, ↓reduceIte, Nat.reduceEqDiff, Nat.mul_one, Nat.add_zero, Nat.zero_add, Nat.zero_mul, Int.toNat_natCast, Int.reduceToNat, Nat.reduceMul, Nat.reduceAdd, decide_true, decide_false, Bool.not_true, Bool.not_false, true_and, and_true, List.map_cons, List.map_nil, List.nil_append, List.cons_append, List.append_nil, Option.map_some, Option.bind_some, List.getElem?_cons_zero, List.getElem?_cons_succ, Bool.false_eq_true, not_true_eq_false, not_false_eq_true, List.contains_cons, List.contains_nil, Nat.reduceBEq, Bool.true_or, Bool.false_or, Bool.or_true, List.set_cons_zero, List.set_cons_succ, List.length_cons, List.length_nil, isLd, Bool.true_and, Bool.false_and, Bool.and_true, Bool.and_false]) (by simp (maxSteps := 300000) (disch := omega) only [gs, gs2, gs3, ↓reduceIte, Nat.reduceEqDiff, Nat.mul_one, Nat.add_zero, Nat.zero_add, Nat.zero_mul, Int.toNat_natCast, Int.reduceToNat, Nat.reduceMul, Nat.reduceAdd, decide_true, decide_false, Bool.not_true, Bool.not_false, true_and, and_true, List.map_cons, List.map_nil, List.nil_append, List.cons_append, List.append_nil, Option.map_some, Option.bind_some, List.getElem?_cons_zero, List.getElem?_cons_succ, Bool.false_eq_true, not_true_eq_false, not_false_eq_true, List.contains_cons, List.contains_nil, Nat.reduceBEq, Bool.true_or, Bool.false_or, Bool.or_true, List.set_cons_zero, List.set_cons_succ, List.length_cons, List.length_nil, isLd, Bool.true_and, Bool.false_and, Bool.and_true, Bool.and_false]) (by simp (maxSteps := 300000) (disch := omega) only [gs, gs2, gs3, ↓reduceIte, Nat.reduceEqDiff, Nat.mul_one, Nat.add_zero, Nat.zero_add, Nat.zero_mul, Int.toNat_natCast, Int.reduceToNat, Nat.reduceMul, Nat.reduceAdd, decide_true, decide_false, Bool.not_true, Bool.not_false, true_and, and_true, List.map_cons, List.map_nil, List.nil_append, List.cons_append, List.append_nil, Option.map_some, Option.bind_some, List.getElem?_cons_zero, List.getElem?_cons_succ, Bool.false_eq_true, not_true_eq_false, not_false_eq_true, List.contains_cons, List.contains_nil, Nat.reduceBEq, Bool.true_or, Bool.false_or, Bool.or_true, List.set_cons_zero, List.set_cons_succ, List.length_cons, List.length_nil, isLd, Bool.true_and, Bool.false_and, Bool.and_true, Bool.and_false]) (by simp (maxSteps := 300000) (disch := omega) only [gs, gs2, gs3, ↓reduceIte, Nat.reduceEqDiff, Nat.mul_one, Nat.add_zero, Nat.zero_add, Nat.zero_mul, Int.toNat_natCast, Int.reduceToNat, Nat.reduceMul, Nat.reduceAdd, decide_true, decide_false, Bool.not_true, Bool.not_false, true_and, and_true, List.map_cons, List.map_nil, List.nil_append, List.cons_append, List.append_nil, Option.map_some, Option.bind_some, List.getElem?_cons_zero, List.getElem?_cons_succ, Bool.false_eq_true, not_true_eq_false, not_false_eq_true, List.contains_cons, List.contains_nil, Nat.reduceBEq, Bool.true_or, Bool.false_or, Bool.or_true, List.set_cons_zero, List.set_cons_succ, List.length_cons, List.length_nil, isLd, Bool.true_and, Bool.false_and, Bool.and_true, Bool.and_false]) (by simp (maxSteps := 300000) (disch := omega) only [gs, gs2, gs3, ↓reduceIte, Nat.reduceEqDiff, Nat.mul_one, Nat.add_zero, Nat.zero_add, Nat.zero_mul, Int.toNat_natCast, Int.reduceToNat, Nat.reduceMul, Nat.reduceAdd, decide_true, decide_false, Bool.not_true, Bool.not_false, true_and, and_true, List.map_cons, List.map_nil, List.nil_append, List.cons_append, List.append_nil, Option.map_some, Option.bind_some, List.getElem?_cons_zero, List.getElem?_cons_succ, Bool.false_eq_true, not_true_eq_false, not_false_eq_true, List.contains_cons, List.contains_nil, Nat.reduceBEq, Bool.true_or, Bool.false_or, Bool.or_true, List.set_cons_zero, List.set_cons_succ, List.length_cons, List.length_nil, isLd, Bool.true_and, Bool.false_and, Bool.and_true, Bool.and_false]) fun T G5 es Ap cp x2 x3 hA hl hD => ?_
    exact fin _ _ _ _ _ _ _ (by omega) hA hl hD x2 x3
  · simp (maxSteps := 300000) (disch := omega) only [gs, gs2, gs3, ↓reduceIte, Nat.reduceEqDiff, Nat.mul_one, Nat.add_zero, Nat.zero_add, Nat.zero_mul, Int.toNat_natCast, Int.reduceToNat, Nat.reduceMul, Nat.reduceAdd, decide_true, decide_false, Bool.not_true, Bool.not_false, true_and, and_true, List.map_cons, List.map_nil, List.nil_append, List.cons_append, List.append_nil, Option.map_some, Option.bind_some, List.getElem?_cons_zero, List.getElem?_cons_succ, Bool.false_eq_true, not_true_eq_false, not_false_eq_true, List.contains_cons, List.contains_nil, Nat.reduceBEq, Bool.true_or, Bool.false_or, Bool.or_true, List.set_cons_zero, List.set_cons_succ, List.length_cons, List.length_nil, isLd, Bool.true_and, Bool.false_and, Bool.and_true, Bool.and_false]
    refine st_boxg hD.r3 rfl (by simp [graC]) (graC ⟨12, []⟩ none 0) rfl ?_
    have hD := hD.set 12
    simp (maxSteps := 300000) (disch := omega) only [gs, gs2, gs3, ↓reduceIte, Nat.reduceEqDiff, Nat.mul_one, Nat.add_zero, Nat.zero_add, Nat.zero_mul, Int.toNat_natCast, Int.reduceToNat, Nat.reduceMul, Nat.reduceAdd, decide_true, decide_false, Bool.not_true, Bool.not_false, true_and, and_true, List.map_cons, List.map_nil, List.nil_append, List.cons_append, List.append_nil, Option.map_some, Option.bind_some, List.getElem?_cons_zero, List.getElem?_cons_succ, Bool.false_eq_true, not_true_eq_false, not_false_eq_true, List.contains_cons, List.contains_nil, Nat.reduceBEq, Bool.true_or, Bool.false_or, Bool.or_true, List.set_cons_zero, List.set_cons_succ, List.length_cons, List.length_nil, isLd, Bool.true_and, Bool.false_and, Bool.and_true, Bool.and_false]
    refine drawg_l1 (p := p + 2 + 2 + 2) (mn := 4) (by omega) (by omega) (by omega) hD (by simp (maxSteps := 300000) (disch := omega) only [gs, gs2, gs3, ↓reduceIte, Nat.reduceEqDiff, Nat.mul_one, Nat.add_zero, Nat.zero_add, Nat.zero_mul, Int.toNat_natCast, Int.reduceToNat, Nat.reduceMul, Nat.reduceAdd, decide_true, decide_false, Bool.not_true, Bool.not_false, true_and, and_true, List.map_cons, List.map_nil, List.nil_append, List.cons_append, List.append_nil, Option.map_some, Option.bind_some, List.getElem?_cons_zero, List.getElem?_cons_succ, Bool.false_eq_true, not_true_eq_false, not_false_eq_true, List.contains_cons, List.contains_nil, Nat.reduceBEq, Bool.true_or, Bool.false_or, Bool.or_true, List.set_cons_zero, List.set_cons_succ, List.length_cons, List.length_nil, isLd, Bool.true_and, Bool.false_and, Bool.and_true, Bool.and_false]) (by simp (maxSteps := 300000) (disch := omega) only [gs, gs2, gs3, ↓reduceIte, Nat.reduceEqDiff, Nat.mul_one, Nat.add_zero, Nat.zero_add, Nat.zero_mul, Int.toNat_natCast, Int.reduceToNat, Nat.reduceMul, Nat.reduceAdd, decide_true, decide_false, Bool.not_true, Bool.not_false, true_and, and_true, List.map_cons, List.map_nil, List.nil_append, List.cons_append, List.append_nil, Option.map_some, Option.bind_some, List.getElem?_cons_zero, List.getElem?_cons_succ, Bool.false_eq_true, not_true_eq_false, not_false_eq_true, List.contains_cons, List.contains_nil, Nat.reduceBEq, Bool.true_or, Bool.false_or, Bool.or_true, List.set_cons_zero, List.set_cons_succ, List.length_cons, List.length_nil, isLd, Bool.true_and, Bool.false_and, Bool.and_true, Bool.and_false]) (by simp (maxSteps := 300000) (disch := omega) only [gs, gs2, gs3, ↓reduceIte, Nat.reduceEqDiff, Nat.mul_one, Nat.add_zero, Nat.zero_add, Nat.zero_mul, Int.toNat_natCast, Int.reduceToNat, Nat.reduceMul, Nat.reduceAdd, decide_true, decide_false, Bool.not_true, Bool.not_false, true_and, and_true, List.map_cons, List.map_nil, List.nil_append, List.cons_append, List.append_nil, Option.map_some, Option.bind_some, List.getElem?_cons_zero, List.getElem?_cons_succ, Bool.false_eq_true, not_true_eq_false, not_false_eq_true, List.contains_cons, List.contains_nil, Nat.reduceBEq, Bool.true_or, Bool.false_or, Bool.or_true, List.set_cons_zero, List.set_cons_succ, List.length_cons, List.length_nil, isLd, Bool.true_and, Bool.false_and, Bool.and_true, Bool.and_false]) (by simp (maxSteps := 300000) (disch := omega) only [gs, gs2, gs3, ↓reduceIte, Nat.reduceEqDiff, Nat.mul_one, Nat.add_zero, Nat.zero_add, Nat.zero_mul, Int.toNat_natCast, Int.reduceToNat, Nat.reduceMul, Nat.reduceAdd, decide_true, decide_false, Bool.not_true, Bool.not_false, true_and, and_true, List.map_cons, List.map_nil, List.nil_append, List.cons_append, List.append_nil, Option.map_some, Option.bind_some, List.getElem?_cons_zero, List.getElem?_cons_succ, Bool.false_eq_true, not_true_eq_false, not_false_eq_true, List.contains_cons, List.contains_nil, Nat.reduceBEq, Bool.true_or, Bool.false_or, Bool.or_true, List.set_cons_zero, List.set_cons_succ, List.length_cons, List.length_nil, isLd, Bool.true_and, Bool.false_and, Bool.and_true, Bool.and_false]) (by simp (maxSteps := 300000) (disch := omega) only [gs, gs2, gs3, ↓reduceIte, Nat.reduceEqDiff, Nat.mul_one, Nat.add_zero, Nat.zero_add, Nat.zero_mul, Int.toNat_natCast, Int.reduceToNat, Nat.reduceMul, Nat.reduceAdd, decide_true, decide_false, Bool.not_true, Bool.not_false, true_and, and_true, List.map_cons, List.map_nil, List.nil_append, List.cons_append, List.append_nil, Option.map_some, Option.bind_some, List.getElem?_cons_zero, List.getElem?_cons_succ, Bool.false_eq_true, not_true_eq_false, not_false_eq_true, List.contains_cons, List.contains_nil, Nat.reduceBEq, Bool.true_or, Bool.false_or, Bool.or_true, List.set_cons_zero, List.set_cons_succ, List.length_cons, List.length_nil, isLd, Bool.true_and, Bool.false_and, Bool.and_true, Bool.and_false]) fun T G5 es Ap cp x2 x3 hA hl hD => ?_
    exact fin _ _ _ _ _ _ _ (by omega) hA hl hD x2 x3
theorem GSm.bend {n : Int} {es : List T3} (h : GSm ⟨n, es⟩) {w : Int} (hw : 0 ≤ w ∧ w ≤ 100) (h0 : 0 < es.length) : GSm ⟨n, es.set 0 ((es.getD 0 z3).1, (es.getD 0 z3).2.1, w)⟩ := by
  refine ⟨h.n, by simpa using h.len, fun e he => ?_⟩
  rcases List.mem_or_eq_of_mem_set he with h' | h'
  · exact h.el e h'
  · subst h'
    have := h.el (es.getD 0 z3) (by
      have : es.getD 0 z3 = es[0] := by simp [List.getD, h0]
      rw [this]; exact List.getElem_mem h0)
    exact ⟨this.1, this.2.1, hw⟩
theorem GN.clear {H0 G : GH} {b b2 b3 : Nat} {A : Option Addr} {L c p : Nat} {N : Gra} {Ap : Option Addr} {cp : Nat} {n : Int} (h : GN H0 G b b2 b3 A L c p N Ap cp) : GN H0 (put G b3 ⟨graC ⟨n, []⟩ none 0, true⟩) b b2 b3 A L c p ⟨n, []⟩ none 0 := by
  obtain ⟨q, st, h1, h2⟩ := h.src.ex
  exact ⟨⟨h.src.sub.skip h.n3, h.src.nb, h.src.byt, q, st, h1, by rw [put_ne _ _ h.d3.symm]; exact h2⟩, by rw [put_ne _ _ h.d23]; exact h.r2, put_same _ _ _, Own.nil _ _, h.n2, h.n3, Off.nil _, h.d2, h.d3, h.d23, fun a ha => by cases ha⟩
/-- a weight is written. -/
theorem GN.bend {H0 G : GH} {b b2 b3 : Nat} {A : Option Addr} {L c p : Nat} {n : Int} {es : List T3} {Ap : Option Addr} {cp : Nat} (h : GN H0 G b b2 b3 A L c p ⟨n, es⟩ Ap cp) (h0 : 0 < es.length) (w : Int) {K : Value → GH → Prop}
    (hk : ∀ G', GN H0 G' b b2 b3 A L c p ⟨n, es.set 0 ((es.getD 0 z3).1, (es.getD 0 z3).2.1, w)⟩ Ap cp → K undef G') : gSt 1 (.pointer (pa Ap 2)) (.int .i64 w) G K := by
  have hO := h.own
  dsimp only at hO
  rcases hO with ⟨_, _, hz, _⟩ | ⟨x, r, rfl, hx, hl, hc, hle⟩
  · have hz : es.length = 0 := hz
    omega
  obtain ⟨d1, d2, d3⟩ := h.da _ rfl
  dsimp only at d1 d2 d3
  rw [pa_mk, Nat.zero_add]
  refine st_one hx (by rw [List.length_append, flat3_len]; omega) rfl (hk _ ?_)
  have e := flat3_set2 w r es 0 h0
  rw [Nat.zero_mul, Nat.zero_add] at e
  rw [e]
  obtain ⟨q, st, g1, g2⟩ := h.src.ex
  have nx : H0 x = none := h.off _ rfl
  refine ⟨⟨h.src.sub.skip nx, h.src.nb, h.src.byt, q, st, g1, by rw [put_ne _ _ d1.symm]; exact g2⟩, by rw [put_ne _ _ d2.symm]; exact h.r2, ?_, .inr ⟨x, r, rfl, put_same _ _ _, ?_, ?_, ?_⟩, h.n2, h.n3, h.off, h.d2, h.d3, h.d23, h.da⟩
  · rw [put_ne _ _ d3.symm, h.r3]; simp [graC]
  · rw [flat3_len]
  · rw [List.length_append] at hc ⊢; rw [flat3_len] at hc ⊢; simpa using hc
  · simpa using hle
/-- a graph is laid into the result. -/
theorem st_grab {G : GH} {b : Nat} {n : Int} {es : List T3} {A : Option Addr} {c : Nat} {K : Value → GH → Prop} (h : G b = some ⟨z2, true⟩)
    (hk : rd (put G b ⟨graC ⟨n, es⟩ A c, true⟩) (some ⟨b, 0, none⟩) = some (.int .i64 n) → rd (put G b ⟨graC ⟨n, es⟩ A c, true⟩) (some ⟨b, 1, none⟩) = some (.slice A es.length c) → K undef (put G b ⟨graC ⟨n, es⟩ A c, true⟩)) :
    gSt 2 (.pointer (some ⟨b, 0, none⟩)) (.agg [.int .i64 n, .slice A es.length c].toArray) G K := by
  refine st_many (vs := graC ⟨n, es⟩ A c) rfl h rfl (by simp [z2, graC]) (by intro v hv; simp [graC] at hv; rcases hv with rfl | rfl <;> rfl) ?_
  rw [show over z2 0 (graC ⟨n, es⟩ A c) = graC ⟨n, es⟩ A c from rfl]
  exact hk (rd_box _ _ _ 0 _ rfl) (rd_box _ _ _ 1 _ rfl)

end Go.Proofs.Ytmlkgpoakkgjbaa.Gh
