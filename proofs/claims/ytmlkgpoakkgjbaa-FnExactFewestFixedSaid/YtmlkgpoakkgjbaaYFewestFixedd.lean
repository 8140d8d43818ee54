/- What the functions that the law FewestFixed reaches return, and the law; it stands under no condition. -/
import Derived.Test.YtmlkgpoakkgjbaaYFewestFixedc
namespace Go.Proofs.Ytmlkgpoakkgjbaa.Gh
open Go Go.RowKit Go.Proofs
set_option linter.unusedVariables false
set_option linter.unusedSimpArgs false
set_option maxHeartbeats 4000000

theorem impl_rest_ok {G : GH} {B : Option Addr} {d : Nat} {xs : List Int} {f : Value} (P : List Int → Prop) (step : List Int → List Int) (hP : ∀ x, P x → P (step x)) (hl : ∀ x, P x → x.length < 2 ^ 30) (hx : P xs) (hf : IntS G B d xs)
    (hs : ∀ G' A c x, Sub G G' → IntS G' A c x → P x → ∀ K : Value → GH → Prop, (∀ G'' A' c', New G' G'' A' c' ((step x).map I64) 1 (step x).length → K (.slice A' (step x).length c') G'') → gCl Try.prog f [.slice A x.length c] G' K) {K : Value → GH → Prop}
    (hk : restI (restF step 1001 0 xs) K G) : GC Try.prog 111 [.slice B xs.length d, f] G K := by
  refine GC_drop (c_impl_rest_i (by simp) ?_)
  simp (maxSteps := 300000) (disch := omega) only [gs, gs2, gs3, ↓reduceIte, Nat.reduceEqDiff, Nat.mul_one, Nat.add_zero, Nat.zero_add, Nat.zero_mul, Int.toNat_natCast, Int.reduceToNat, Nat.reduceMul, Nat.reduceAdd, decide_true, decide_false, Bool.not_true, Bool.not_false, true_and, and_true, List.map_cons, List.map_nil, List.nil_append, List.cons_append, List.append_nil, Option.map_some, Option.bind_some, List.getElem?_cons_zero, List.getElem?_cons_succ, Bool.false_eq_true, not_true_eq_false, not_false_eq_true, List.contains_cons, List.contains_nil, Nat.reduceBEq, Bool.true_or, Bool.false_or, Bool.or_true, List.set_cons_zero, List.set_cons_succ, List.length_cons, List.length_nil, isLd, Bool.true_and, Bool.false_and, Bool.and_true, Bool.and_false]
  refine gLoop_intro (fun m T G' => ∃ (k : Nat) (x : List Int) (A : Option Addr) (c : Nat), T 0 = .slice A x.length c ∧ T 1 = f ∧ T 6 = .int .i64 k ∧ m + k = 1001 ∧ k ≤ 1001 ∧ Sub G G' ∧ IntS G' A c x ∧ P x ∧ restF step 1001 0 xs = restF step m k x)
    1001 ⟨0, xs, B, d, by simp (maxSteps := 300000) (disch := omega) only [gs, gs2, gs3, ↓reduceIte, Nat.reduceEqDiff, Nat.mul_one, Nat.add_zero, Nat.zero_add, Nat.zero_mul, Int.toNat_natCast, Int.reduceToNat, Nat.reduceMul, Nat.reduceAdd, decide_true, decide_false, Bool.not_true, Bool.not_false, true_and, and_true, List.map_cons, List.map_nil, List.nil_append, List.cons_append, List.append_nil, Option.map_some, Option.bind_some, List.getElem?_cons_zero, List.getElem?_cons_succ, Bool.false_eq_true, not_true_eq_false, not_false_eq_true, List.contains_cons, List.contains_nil, Nat.reduceBEq, Bool.true_or, Bool.false_or, Bool.or_true, List.set_cons_zero, List.set_cons_succ, List.length_cons, List.length_nil, isLd, Bool.true_and, Bool.false_and, Bool.and_true, Bool.and_false], by simp (maxSteps := 300000) (disch := omega) only [gs, gs2, gs3, ↓reduceIte, Nat.reduceEqDiff, Nat.mul_one, Nat.add_zero, Nat.zero_add, Nat.zero_mul, Int.toNat_natCast, Int.reduceToNat, Nat.reduceMul, Nat.reduceAdd, decide_true, decide_false, Bool.not_true, Bool.not_false, true_and, and_true, List.map_cons, List.map_nil, List.nil_append, List.cons_append, List.append_nil, Option.map_some, Option.bind_some, List.getElem?_cons_zero, List.getElem?_cons_succ, Bool.false_eq_true, not_true_eq_false, not_false_eq_true, List.contains_cons, List.contains_nil, Nat.reduceBEq, Bool.true_or, Bool.false_or, Bool.or_true, List.set_cons_zero, List.set_cons_succ, List.length_cons, List.length_nil, isLd, Bool.true_and, Bool.false_and, Bool.and_true, Bool.and_false], by simp (maxSteps := 300000) (disch := omega) only [gs, gs2, gs3, ↓reduceIte, Nat.reduceEqDiff, Nat.mul_one, Nat.add_zero, Nat.zero_add, Nat.zero_mul, Int.toNat_natCast, Int.reduceToNat, Nat.reduceMul, Nat.reduceAdd, decide_true, decide_false, Bool.not_true, Bool.not_false, true_and, and_true, List.map_cons, List.map_nil, List.nil_append, List.cons_append, List.append_nil, Option.map_some, Option.bind_some, List.getElem?_cons_zero, List.getElem?_cons_succ, Bool.false_eq_true, not_true_eq_false, not_false_eq_true, List.contains_cons, List.contains_nil, Nat.reduceBEq, Bool.true_or, Bool.false_or, Bool.or_true, List.set_cons_zero, List.set_cons_succ, List.length_cons, List.length_nil, isLd, Bool.true_and, Bool.false_and, Bool.and_true, Bool.and_false] <;> rfl, by omega, by omega, Sub.refl _, hf, hx, rfl⟩ ?_
  rintro m T G' ⟨k, x, A, c, e0, e1, e6, hm, hkm, s, hx', hPx, he⟩
  simp (maxSteps := 300000) (disch := omega) only [gs, gs2, gs3, ↓reduceIte, Nat.reduceEqDiff, Nat.mul_one, Nat.add_zero, Nat.zero_add, Nat.zero_mul, Int.toNat_natCast, Int.reduceToNat, Nat.reduceMul, Nat.reduceAdd, decide_true, decide_false, Bool.not_true, Bool.not_false, true_and, and_true, List.map_cons, List.map_nil, List.nil_append, List.cons_append, List.append_nil, Option.map_some, Option.bind_some, List.getElem?_cons_zero, List.getElem?_cons_succ, Bool.false_eq_true, not_true_eq_false, not_false_eq_true, List.contains_cons, List.contains_nil, Nat.reduceBEq, Bool.true_or, Bool.false_or, Bool.or_true, List.set_cons_zero, List.set_cons_succ, List.length_cons, List.length_nil, isLd, Bool.true_and, Bool.false_and, Bool.and_true, Bool.and_false, e0, e1, e6]
  by_cases hkk : (k : Int) ≤ 1000
  · simp (maxSteps := 300000) (disch := omega) only [gs, gs2, gs3, ↓reduceIte, Nat.reduceEqDiff, Nat.mul_one, Nat.add_zero, Nat.zero_add, Nat.zero_mul, Int.toNat_natCast, Int.reduceToNat, Nat.reduceMul, Nat.reduceAdd, decide_true, decide_false, Bool.not_true, Bool.not_false, true_and, and_true, List.map_cons, List.map_nil, List.nil_append, List.cons_append, List.append_nil, Option.map_some, Option.bind_some, List.getElem?_cons_zero, List.getElem?_cons_succ, Bool.false_eq_true, not_true_eq_false, not_false_eq_true, List.contains_cons, List.contains_nil, Nat.reduceBEq, Bool.true_or, Bool.false_or, Bool.or_true, List.set_cons_zero, List.set_cons_succ, List.length_cons, List.length_nil, isLd, Bool.true_and, Bool.false_and, Bool.and_true, Bool.and_false, hkk, e0, e1, e6]
    refine hs G' A c x s hx' hPx _ fun G2 A2 c2 hN => ?_
    simp (maxSteps := 300000) (disch := omega) only [gs, gs2, gs3, ↓reduceIte, Nat.reduceEqDiff, Nat.mul_one, Nat.add_zero, Nat.zero_add, Nat.zero_mul, Int.toNat_natCast, Int.reduceToNat, Nat.reduceMul, Nat.reduceAdd, decide_true, decide_false, Bool.not_true, Bool.not_false, true_and, and_true, List.map_cons, List.map_nil, List.nil_append, List.cons_append, List.append_nil, Option.map_some, Option.bind_some, List.getElem?_cons_zero, List.getElem?_cons_succ, Bool.false_eq_true, not_true_eq_false, not_false_eq_true, List.contains_cons, List.contains_nil, Nat.reduceBEq, Bool.true_or, Bool.false_or, Bool.or_true, List.set_cons_zero, List.set_cons_succ, List.length_cons, List.length_nil, isLd, Bool.true_and, Bool.false_and, Bool.and_true, Bool.and_false, e0, e1, e6]
    have hlx := hl x hPx
    have hls := hl _ (hP x hPx)
    refine slices_Equal_int64_ok hN.ints (hx'.sub hN.sub) (by omega) ?_
    obtain ⟨m', rfl⟩ : ∃ m', m = m' + 1 := ⟨m - 1, by omega⟩
    rw [restF_succ step m' k x] at he
    by_cases hq : step x = x
    · simp (maxSteps := 300000) (disch := omega) only [gs, gs2, gs3, ↓reduceIte, Nat.reduceEqDiff, Nat.mul_one, Nat.add_zero, Nat.zero_add, Nat.zero_mul, Int.toNat_natCast, Int.reduceToNat, Nat.reduceMul, Nat.reduceAdd, decide_true, decide_false, Bool.not_true, Bool.not_false, true_and, and_true, List.map_cons, List.map_nil, List.nil_append, List.cons_append, List.append_nil, Option.map_some, Option.bind_some, List.getElem?_cons_zero, List.getElem?_cons_succ, Bool.false_eq_true, not_true_eq_false, not_false_eq_true, List.contains_cons, List.contains_nil, Nat.reduceBEq, Bool.true_or, Bool.false_or, Bool.or_true, List.set_cons_zero, List.set_cons_succ, List.length_cons, List.length_nil, isLd, Bool.true_and, Bool.false_and, Bool.and_true, Bool.and_false, eq_true hq, e0, e1, e6]
      rw [if_pos hq] at he
      rw [he] at hk
      refine slices_Clone_ok (hx'.sub hN.sub) hlx fun G3 A3 c3 hN3 => ?_
      simp (maxSteps := 300000) (disch := omega) only [gs, gs2, gs3, ↓reduceIte, Nat.reduceEqDiff, Nat.mul_one, Nat.add_zero, Nat.zero_add, Nat.zero_mul, Int.toNat_natCast, Int.reduceToNat, Nat.reduceMul, Nat.reduceAdd, decide_true, decide_false, Bool.not_true, Bool.not_false, true_and, and_true, List.map_cons, List.map_nil, List.nil_append, List.cons_append, List.append_nil, Option.map_some, Option.bind_some, List.getElem?_cons_zero, List.getElem?_cons_succ, Bool.false_eq_true, not_true_eq_false, not_false_eq_true, List.contains_cons, List.contains_nil, Nat.reduceBEq, Bool.true_or, Bool.false_or, Bool.or_true, List.set_cons_zero, List.set_cons_succ, List.length_cons, List.length_nil, isLd, Bool.true_and, Bool.false_and, Bool.and_true, Bool.and_false, e0, e1, e6]
      obtain ⟨G4, s4, hN4⟩ := hN3.low (s.trans hN.sub)
      exact ⟨G4, s4, hk.1 (by dsimp only; omega) _ _ _ hN4⟩
    · rw [decide_eq_false hq]
      simp (maxSteps := 300000) (disch := omega) only [gs, gs2, gs3, ↓reduceIte, Nat.reduceEqDiff, Nat.mul_one, Nat.add_zero, Nat.zero_add, Nat.zero_mul, Int.toNat_natCast, Int.reduceToNat, Nat.reduceMul, Nat.reduceAdd, decide_true, decide_false, Bool.not_true, Bool.not_false, true_and, and_true, List.map_cons, List.map_nil, List.nil_append, List.cons_append, List.append_nil, Option.map_some, Option.bind_some, List.getElem?_cons_zero, List.getElem?_cons_succ, Bool.false_eq_true, not_true_eq_false, not_false_eq_true, List.contains_cons, List.contains_nil, Nat.reduceBEq, Bool.true_or, Bool.false_or, Bool.or_true, List.set_cons_zero, List.set_cons_succ, List.length_cons, List.length_nil, isLd, Bool.true_and, Bool.false_and, Bool.and_true, Bool.and_false, e0, e1, e6]
      rw [if_neg hq] at he
      exact ⟨m', by omega, G2, Sub.refl _, k + 1, step x, A2, c2, rfl, rfl, by omega, by omega, s.trans hN.sub, hN.ints, hP x hPx, by rw [he]; rfl⟩
  · simp (maxSteps := 300000) (disch := omega) only [gs, gs2, gs3, ↓reduceIte, Nat.reduceEqDiff, Nat.mul_one, Nat.add_zero, Nat.zero_add, Nat.zero_mul, Int.toNat_natCast, Int.reduceToNat, Nat.reduceMul, Nat.reduceAdd, decide_true, decide_false, Bool.not_true, Bool.not_false, true_and, and_true, List.map_cons, List.map_nil, List.nil_append, List.cons_append, List.append_nil, Option.map_some, Option.bind_some, List.getElem?_cons_zero, List.getElem?_cons_succ, Bool.false_eq_true, not_true_eq_false, not_false_eq_true, List.contains_cons, List.contains_nil, Nat.reduceBEq, Bool.true_or, Bool.false_or, Bool.or_true, List.set_cons_zero, List.set_cons_succ, List.length_cons, List.length_nil, isLd, Bool.true_and, Bool.false_and, Bool.and_true, Bool.and_false, hkk, e0, e1, e6]
    obtain rfl : m = 0 := by omega
    rw [he] at hk
    exact ⟨G, s, hk.2 rfl⟩
theorem l18Step_l1 {G1 G' : GH} {N : Gra} {A B C : Option Addr} {c d e bS bW cS cW : Nat} {rS rW : List Value} {q : Option Addr} {xs fixed : List Int} {own lim : Int} {T : Nat → Value} {Q : Cont} (h : GraP G1 q N A c) (hf : IntS G1 B d xs) (hx : VecOk N xs) (hn : GraOk N) (ho : 0 ≤ own ∧ own ≤ 1000)
    (e0 : T 0 = .pointer q) (e1 : T 1 = .slice B xs.length d) (e3 : T 3 = .int .i64 lim) (e4 : T 4 = .slice C fixed.length e) (e11 : T 11 = .slice (some ⟨bS, 0, none⟩) xs.length cS) (e12 : T 12 = .slice (some ⟨bW, 0, none⟩) xs.length cW)
    (e14 : T 14 = .int .i64 0) (hA : AvG G1 G' bS bW xs.length rS rW (avS N.edges xs own (limR lim) 0) (avW N.edges xs own (limR lim) 0))
    (hQ : ∀ T G', T 1 = .slice B xs.length d → T 4 = .slice C fixed.length e → T 11 = .slice (some ⟨bS, 0, none⟩) xs.length cS → T 12 = .slice (some ⟨bW, 0, none⟩) xs.length cW →
      AvG G1 G' bS bW xs.length rS rW (avS N.edges xs own (limR lim) N.edges.length) (avW N.edges xs own (limR lim) N.edges.length) → Q (.ex 2) T G') : gLoop (gW Try.prog c_spec_l18Step_l1) Q T G' := by
  have hn1 := hn.1
  have hn4 := hn.2.2.2
  have hx1 := hx.1
  have hq := rd_some h.f0
  refine gLoop_intro (fun m T G' => ∃ k : Nat, T 0 = .pointer q ∧ T 1 = .slice B xs.length d ∧ T 3 = .int .i64 lim ∧ T 4 = .slice C fixed.length e ∧ T 11 = .slice (some ⟨bS, 0, none⟩) xs.length cS ∧ T 12 = .slice (some ⟨bW, 0, none⟩) xs.length cW ∧
    T 14 = .int .i64 k ∧ m + k = N.edges.length ∧ k ≤ N.edges.length ∧ AvG G1 G' bS bW xs.length rS rW (avS N.edges xs own (limR lim) k) (avW N.edges xs own (limR lim) k))
    N.edges.length ⟨0, e0, e1, e3, e4, e11, e12, e14, by omega, by omega, hA⟩ ?_
  rintro m T G' ⟨k, e0, e1, e3, e4, e11, e12, e14, hm, hkm, hA⟩
  have hh := h.edges.sub hA.sub
  have f1 := rd_sub hA.sub h.f1
  have hsn := hh.sn
  have p0 := hh.r0
  have p1 := hh.r1
  have p2 := hh.r2
  simp (maxSteps := 300000) (disch := omega) only [gs, gs2, gs3, ↓reduceIte, Nat.reduceEqDiff, Nat.mul_one, Nat.add_zero, Nat.zero_add, Nat.zero_mul, Int.toNat_natCast, Int.reduceToNat, Nat.reduceMul, Nat.reduceAdd, decide_true, decide_false, Bool.not_true, Bool.not_false, true_and, and_true, List.map_cons, List.map_nil, List.nil_append, List.cons_append, List.append_nil, Option.map_some, Option.bind_some, List.getElem?_cons_zero, List.getElem?_cons_succ, Bool.false_eq_true, not_true_eq_false, not_false_eq_true, List.contains_cons, List.contains_nil, Nat.reduceBEq, Bool.true_or, Bool.false_or, Bool.or_true, List.set_cons_zero, List.set_cons_succ, List.length_cons, List.length_nil, isLd, Bool.true_and, Bool.false_and, Bool.and_true, Bool.and_false, e0, e1, e3, e4, e11, e12, e14, f1]
  by_cases hk : (k : Int) < N.edges.length
  · simp (maxSteps := 300000) (disch := omega) only [gs, gs2, gs3, ↓reduceIte, Nat.reduceEqDiff, Nat.mul_one, Nat.add_zero, Nat.zero_add, Nat.zero_mul, Int.toNat_natCast, Int.reduceToNat, Nat.reduceMul, Nat.reduceAdd, decide_true, decide_false, Bool.not_true, Bool.not_false, true_and, and_true, List.map_cons, List.map_nil, List.nil_append, List.cons_append, List.append_nil, Option.map_some, Option.bind_some, List.getElem?_cons_zero, List.getElem?_cons_succ, Bool.false_eq_true, not_true_eq_false, not_false_eq_true, List.contains_cons, List.contains_nil, Nat.reduceBEq, Bool.true_or, Bool.false_or, Bool.or_true, List.set_cons_zero, List.set_cons_succ, List.length_cons, List.length_nil, isLd, Bool.true_and, Bool.false_and, Bool.and_true, Bool.and_false, hk, e0, e1, e3, e4, e11, e12, e14, f1, p0, p1, p2]
    intro b15 hb15
    simp (maxSteps := 300000) (disch := omega) only [gs, gs2, gs3, ↓reduceIte, Nat.reduceEqDiff, Nat.mul_one, Nat.add_zero, Nat.zero_add, Nat.zero_mul, Int.toNat_natCast, Int.reduceToNat, Nat.reduceMul, Nat.reduceAdd, decide_true, decide_false, Bool.not_true, Bool.not_false, true_and, and_true, List.map_cons, List.map_nil, List.nil_append, List.cons_append, List.append_nil, Option.map_some, Option.bind_some, List.getElem?_cons_zero, List.getElem?_cons_succ, Bool.false_eq_true, not_true_eq_false, not_false_eq_true, List.contains_cons, List.contains_nil, Nat.reduceBEq, Bool.true_or, Bool.false_or, Bool.or_true, List.set_cons_zero, List.set_cons_succ, List.length_cons, List.length_nil, isLd, Bool.true_and, Bool.false_and, Bool.and_true, Bool.and_false, e0, e1, e3, e4, e11, e12, e14]
    refine st_fresh (vs := c3 (N.edges.getD k z3)) rfl rfl rfl (c3_one _) ?_
    have hb1 : G1 b15 = none := hA.sub.none hb15
    have hB := hA.boxed hb15 ⟨c3 (N.edges.getD k z3), true⟩
    have sH := Sub.put hb1 ⟨c3 (N.edges.getD k z3), true⟩
    have q0 : rd (put G1 b15 ⟨c3 (N.edges.getD k z3), true⟩) (some ⟨b15, 0, none⟩) = some (.int .i64 (N.edges.getD k z3).1) := rd_box _ _ _ 0 _ rfl
    have q1 : rd (put G1 b15 ⟨c3 (N.edges.getD k z3), true⟩) (some ⟨b15, 1, none⟩) = some (.int .i64 (N.edges.getD k z3).2.1) := rd_box _ _ _ 1 _ rfl
    have q2 : rd (put G1 b15 ⟨c3 (N.edges.getD k z3), true⟩) (some ⟨b15, 2, none⟩) = some (.int .i64 (N.edges.getD k z3).2.2) := rd_box _ _ _ 2 _ rfl
    have hfH := hf.sub sH
    clear p0 p1 p2 f1
    revert hB sH q0 q1 q2 hfH
    generalize put G1 b15 ⟨c3 (N.edges.getD k z3), true⟩ = H
    generalize put G' b15 ⟨c3 (N.edges.getD k z3), true⟩ = G2
    intro hB sH q0 q1 q2 hfH
    obtain ⟨o1, o2, o3, o4⟩ := hn.2.1 k (by omega)
    have a1 := av_bd hn hx ho (lim := limR lim) k hkm (N.edges.getD k z3).1 (by omega) (by omega)
    have a2 := av_bd hn hx ho (lim := limR lim) k hkm (N.edges.getD k z3).2.1 (by omega) (by omega)
    have v1 := xg_bd hx (v := (N.edges.getD k z3).1) (by omega)
    have v2 := xg_bd hx (v := (N.edges.getD k z3).2.1) (by omega)
    have m1 := mul_bd (by omega : 0 ≤ (N.edges.getD k z3).2.2) v1
    have m2 := mul_bd (by omega : 0 ≤ (N.edges.getD k z3).2.2) v2
    have hna := near_ref hn hx (k := k) (by omega) (lim := lim)
    have hyS := avS_yes (es := N.edges) (x := xs) (own := own) (lim := limR lim) (k := k)
    have hyW := avW_yes (es := N.edges) (x := xs) (own := own) (lim := limR lim) (k := k)
    have hno := av_no (es := N.edges) (x := xs) (own := own) (lim := limR lim) (k := k)
    generalize N.edges.getD k z3 = E at *
    generalize avS N.edges xs own (limR lim) k = S at *
    generalize avW N.edges xs own (limR lim) k = W at *
    unfold xg at v1 v2 m1 m2
    have u := (hfH.sub hB.sub).rd
    have hsu := (hfH.sub hB.sub).sn
    have r0 := rd_sub hB.sub q0
    have r1 := rd_sub hB.sub q1
    have r2 := rd_sub hB.sub q2
    simp (maxSteps := 300000) (disch := omega) only [gs, gs2, gs3, ↓reduceIte, Nat.reduceEqDiff, Nat.mul_one, Nat.add_zero, Nat.zero_add, Nat.zero_mul, Int.toNat_natCast, Int.reduceToNat, Nat.reduceMul, Nat.reduceAdd, decide_true, decide_false, Bool.not_true, Bool.not_false, true_and, and_true, List.map_cons, List.map_nil, List.nil_append, List.cons_append, List.append_nil, Option.map_some, Option.bind_some, List.getElem?_cons_zero, List.getElem?_cons_succ, Bool.false_eq_true, not_true_eq_false, not_false_eq_true, List.contains_cons, List.contains_nil, Nat.reduceBEq, Bool.true_or, Bool.false_or, Bool.or_true, List.set_cons_zero, List.set_cons_succ, List.length_cons, List.length_nil, isLd, Bool.true_and, Bool.false_and, Bool.and_true, Bool.and_false, e0, e1, e3, e4, e11, e12, e14, u, r0, r1, r2]
    refine spec_l00Max_ok _ _ ?_
    simp (maxSteps := 300000) (disch := omega) only [gs, gs2, gs3, ↓reduceIte, Nat.reduceEqDiff, Nat.mul_one, Nat.add_zero, Nat.zero_add, Nat.zero_mul, Int.toNat_natCast, Int.reduceToNat, Nat.reduceMul, Nat.reduceAdd, decide_true, decide_false, Bool.not_true, Bool.not_false, true_and, and_true, List.map_cons, List.map_nil, List.nil_append, List.cons_append, List.append_nil, Option.map_some, Option.bind_some, List.getElem?_cons_zero, List.getElem?_cons_succ, Bool.false_eq_true, not_true_eq_false, not_false_eq_true, List.contains_cons, List.contains_nil, Nat.reduceBEq, Bool.true_or, Bool.false_or, Bool.or_true, List.set_cons_zero, List.set_cons_succ, List.length_cons, List.length_nil, isLd, Bool.true_and, Bool.false_and, Bool.and_true, Bool.and_false, e0, e1, e3, e4, e11, e12, e14, u, r0, r1, r2]
    generalize hD : max (xs.getD E.1.toNat 0 - xs.getD E.2.1.toNat 0) (xs.getD E.2.1.toNat 0 - xs.getD E.1.toNat 0) = D at *
    by_cases g : nearE xs (limR lim) E
    · by_cases gl : 0 ≤ lim
      · have gd : ¬ lim < D := fun x => hna.1 ⟨gl, x⟩ g
        have c0 := cell_rd hB.s (v := E.1) (by omega) (by omega)
        simp (maxSteps := 300000) (disch := omega) only [gs, gs2, gs3, ↓reduceIte, Nat.reduceEqDiff, Nat.mul_one, Nat.add_zero, Nat.zero_add, Nat.zero_mul, Int.toNat_natCast, Int.reduceToNat, Nat.reduceMul, Nat.reduceAdd, decide_true, decide_false, Bool.not_true, Bool.not_false, true_and, and_true, List.map_cons, List.map_nil, List.nil_append, List.cons_append, List.append_nil, Option.map_some, Option.bind_some, List.getElem?_cons_zero, List.getElem?_cons_succ, Bool.false_eq_true, not_true_eq_false, not_false_eq_true, List.contains_cons, List.contains_nil, Nat.reduceBEq, Bool.true_or, Bool.false_or, Bool.or_true, List.set_cons_zero, List.set_cons_succ, List.length_cons, List.length_nil, isLd, Bool.true_and, Bool.false_and, Bool.and_true, Bool.and_false, gl, gd, e0, e1, e3, e4, e11, e12, e14, u, r0, r1, r2, c0]
        refine hB.stS (v := E.1) rfl (by omega) (by omega) fun G3 hC => ?_
        rw [add_eq] at hC
        have u := (hfH.sub hC.sub).rd
        have hsu := (hfH.sub hC.sub).sn
        have r0 := rd_sub hC.sub q0
        have r1 := rd_sub hC.sub q1
        have r2 := rd_sub hC.sub q2
        have c0 := cell_rd hC.s (v := E.2.1) (by omega) (by omega)
        have n1 : addAt S E.1 (E.2.2 * xs.getD E.2.1.toNat 0) E.2.1 = S E.2.1 := addAt_ne (by omega)
        simp (maxSteps := 300000) (disch := omega) only [gs, gs2, gs3, ↓reduceIte, Nat.reduceEqDiff, Nat.mul_one, Nat.add_zero, Nat.zero_add, Nat.zero_mul, Int.toNat_natCast, Int.reduceToNat, Nat.reduceMul, Nat.reduceAdd, decide_true, decide_false, Bool.not_true, Bool.not_false, true_and, and_true, List.map_cons, List.map_nil, List.nil_append, List.cons_append, List.append_nil, Option.map_some, Option.bind_some, List.getElem?_cons_zero, List.getElem?_cons_succ, Bool.false_eq_true, not_true_eq_false, not_false_eq_true, List.contains_cons, List.contains_nil, Nat.reduceBEq, Bool.true_or, Bool.false_or, Bool.or_true, List.set_cons_zero, List.set_cons_succ, List.length_cons, List.length_nil, isLd, Bool.true_and, Bool.false_and, Bool.and_true, Bool.and_false, e0, e1, e3, e4, e11, e12, e14, u, r0, r1, r2, c0]
        refine hC.stS (v := E.2.1) rfl (by omega) (by omega) fun G4 hD => ?_
        rw [add_eq] at hD
        have r0 := rd_sub hD.sub q0
        have r1 := rd_sub hD.sub q1
        have r2 := rd_sub hD.sub q2
        have c0 := cell_rd hD.w (v := E.1) (by omega) (by omega)
        simp (maxSteps := 300000) (disch := omega) only [gs, gs2, gs3, ↓reduceIte, Nat.reduceEqDiff, Nat.mul_one, Nat.add_zero, Nat.zero_add, Nat.zero_mul, Int.toNat_natCast, Int.reduceToNat, Nat.reduceMul, Nat.reduceAdd, decide_true, decide_false, Bool.not_true, Bool.not_false, true_and, and_true, List.map_cons, List.map_nil, List.nil_append, List.cons_append, List.append_nil, Option.map_some, Option.bind_some, List.getElem?_cons_zero, List.getElem?_cons_succ, Bool.false_eq_true, not_true_eq_false, not_false_eq_true, List.contains_cons, List.contains_nil, Nat.reduceBEq, Bool.true_or, Bool.false_or, Bool.or_true, List.set_cons_zero, List.set_cons_succ, List.length_cons, List.length_nil, isLd, Bool.true_and, Bool.false_and, Bool.and_true, Bool.and_false, e0, e1, e3, e4, e11, e12, e14, r0, r1, r2, c0]
        refine hD.stW (v := E.1) rfl (by omega) (by omega) fun G5 hE => ?_
        rw [add_eq] at hE
        have r0 := rd_sub hE.sub q0
        have r1 := rd_sub hE.sub q1
        have r2 := rd_sub hE.sub q2
        have c0 := cell_rd hE.w (v := E.2.1) (by omega) (by omega)
        have n2 : addAt W E.1 E.2.2 E.2.1 = W E.2.1 := addAt_ne (by omega)
        simp (maxSteps := 300000) (disch := omega) only [gs, gs2, gs3, ↓reduceIte, Nat.reduceEqDiff, Nat.mul_one, Nat.add_zero, Nat.zero_add, Nat.zero_mul, Int.toNat_natCast, Int.reduceToNat, Nat.reduceMul, Nat.reduceAdd, decide_true, decide_false, Bool.not_true, Bool.not_false, true_and, and_true, List.map_cons, List.map_nil, List.nil_append, List.cons_append, List.append_nil, Option.map_some, Option.bind_some, List.getElem?_cons_zero, List.getElem?_cons_succ, Bool.false_eq_true, not_true_eq_false, not_false_eq_true, List.contains_cons, List.contains_nil, Nat.reduceBEq, Bool.true_or, Bool.false_or, Bool.or_true, List.set_cons_zero, List.set_cons_succ, List.length_cons, List.length_nil, isLd, Bool.true_and, Bool.false_and, Bool.and_true, Bool.and_false, e0, e1, e3, e4, e11, e12, e14, r0, r1, r2, c0]
        refine hE.stW (v := E.2.1) rfl (by omega) (by omega) fun G6 hF => ?_
        rw [add_eq] at hF
        simp (maxSteps := 300000) (disch := omega) only [gs, gs2, gs3, ↓reduceIte, Nat.reduceEqDiff, Nat.mul_one, Nat.add_zero, Nat.zero_add, Nat.zero_mul, Int.toNat_natCast, Int.reduceToNat, Nat.reduceMul, Nat.reduceAdd, decide_true, decide_false, Bool.not_true, Bool.not_false, true_and, and_true, List.map_cons, List.map_nil, List.nil_append, List.cons_append, List.append_nil, Option.map_some, Option.bind_some, List.getElem?_cons_zero, List.getElem?_cons_succ, Bool.false_eq_true, not_true_eq_false, not_false_eq_true, List.contains_cons, List.contains_nil, Nat.reduceBEq, Bool.true_or, Bool.false_or, Bool.or_true, List.set_cons_zero, List.set_cons_succ, List.length_cons, List.length_nil, isLd, Bool.true_and, Bool.false_and, Bool.and_true, Bool.and_false, e0, e1, e3, e4, e11, e12, e14]
        exact ⟨m - 1, by omega, G6, Sub.refl _, k + 1, rfl, by omega, by omega, by rw [hyS g, hyW g]; exact hF.unbox sH⟩
      · have c0 := cell_rd hB.s (v := E.1) (by omega) (by omega)
        simp (maxSteps := 300000) (disch := omega) only [gs, gs2, gs3, ↓reduceIte, Nat.reduceEqDiff, Nat.mul_one, Nat.add_zero, Nat.zero_add, Nat.zero_mul, Int.toNat_natCast, Int.reduceToNat, Nat.reduceMul, Nat.reduceAdd, decide_true, decide_false, Bool.not_true, Bool.not_false, true_and, and_true, List.map_cons, List.map_nil, List.nil_append, List.cons_append, List.append_nil, Option.map_some, Option.bind_some, List.getElem?_cons_zero, List.getElem?_cons_succ, Bool.false_eq_true, not_true_eq_false, not_false_eq_true, List.contains_cons, List.contains_nil, Nat.reduceBEq, Bool.true_or, Bool.false_or, Bool.or_true, List.set_cons_zero, List.set_cons_succ, List.length_cons, List.length_nil, isLd, Bool.true_and, Bool.false_and, Bool.and_true, Bool.and_false, gl, e0, e1, e3, e4, e11, e12, e14, u, r0, r1, r2, c0]
        refine hB.stS (v := E.1) rfl (by omega) (by omega) fun G3 hC => ?_
        rw [add_eq] at hC
        have u := (hfH.sub hC.sub).rd
        have hsu := (hfH.sub hC.sub).sn
        have r0 := rd_sub hC.sub q0
        have r1 := rd_sub hC.sub q1
        have r2 := rd_sub hC.sub q2
        have c0 := cell_rd hC.s (v := E.2.1) (by omega) (by omega)
        have n1 : addAt S E.1 (E.2.2 * xs.getD E.2.1.toNat 0) E.2.1 = S E.2.1 := addAt_ne (by omega)
        simp (maxSteps := 300000) (disch := omega) only [gs, gs2, gs3, ↓reduceIte, Nat.reduceEqDiff, Nat.mul_one, Nat.add_zero, Nat.zero_add, Nat.zero_mul, Int.toNat_natCast, Int.reduceToNat, Nat.reduceMul, Nat.reduceAdd, decide_true, decide_false, Bool.not_true, Bool.not_false, true_and, and_true, List.map_cons, List.map_nil, List.nil_append, List.cons_append, List.append_nil, Option.map_some, Option.bind_some, List.getElem?_cons_zero, List.getElem?_cons_succ, Bool.false_eq_true, not_true_eq_false, not_false_eq_true, List.contains_cons, List.contains_nil, Nat.reduceBEq, Bool.true_or, Bool.false_or, Bool.or_true, List.set_cons_zero, List.set_cons_succ, List.length_cons, List.length_nil, isLd, Bool.true_and, Bool.false_and, Bool.and_true, Bool.and_false, e0, e1, e3, e4, e11, e12, e14, u, r0, r1, r2, c0]
        refine hC.stS (v := E.2.1) rfl (by omega) (by omega) fun G4 hD => ?_
        rw [add_eq] at hD
        have r0 := rd_sub hD.sub q0
        have r1 := rd_sub hD.sub q1
        have r2 := rd_sub hD.sub q2
        have c0 := cell_rd hD.w (v := E.1) (by omega) (by omega)
        simp (maxSteps := 300000) (disch := omega) only [gs, gs2, gs3, ↓reduceIte, Nat.reduceEqDiff, Nat.mul_one, Nat.add_zero, Nat.zero_add, Nat.zero_mul, Int.toNat_natCast, Int.reduceToNat, Nat.reduceMul, Nat.reduceAdd, decide_true, decide_false, Bool.not_true, Bool.not_false, true_and, and_true, List.map_cons, List.map_nil, List.nil_append, List.cons_append, List.append_nil, Option.map_some, Option.bind_some, List.getElem?_cons_zero, List.getElem?_cons_succ, Bool.false_eq_true, not_true_eq_false, not_false_eq_true, List.contains_cons, List.contains_nil, Nat.reduceBEq, Bool.true_or, Bool.false_or, Bool.or_true, List.set_cons_zero, List.set_cons_succ, List.length_cons, List.length_nil, isLd, Bool.true_and, Bool.false_and, Bool.and_true, Bool.and_false, e0, e1, e3, e4, e11, e12, e14, r0, r1, r2, c0]
        refine hD.stW (v := E.1) rfl (by omega) (by omega) fun G5 hE => ?_
        rw [add_eq] at hE
        have r0 := rd_sub hE.sub q0
        have r1 := rd_sub hE.sub q1
        have r2 := rd_sub hE.sub q2
        have c0 := cell_rd hE.w (v := E.2.1) (by omega) (by omega)
        have n2 : addAt W E.1 E.2.2 E.2.1 = W E.2.1 := addAt_ne (by omega)
        simp (maxSteps := 300000) (disch := omega) only [gs, gs2, gs3, ↓reduceIte, Nat.reduceEqDiff, Nat.mul_one, Nat.add_zero, Nat.zero_add, Nat.zero_mul, Int.toNat_natCast, Int.reduceToNat, Nat.reduceMul, Nat.reduceAdd, decide_true, decide_false, Bool.not_true, Bool.not_false, true_and, and_true, List.map_cons, List.map_nil, List.nil_append, List.cons_append, List.append_nil, Option.map_some, Option.bind_some, List.getElem?_cons_zero, List.getElem?_cons_succ, Bool.false_eq_true, not_true_eq_false, not_false_eq_true, List.contains_cons, List.contains_nil, Nat.reduceBEq, Bool.true_or, Bool.false_or, Bool.or_true, List.set_cons_zero, List.set_cons_succ, List.length_cons, List.length_nil, isLd, Bool.true_and, Bool.false_and, Bool.and_true, Bool.and_false, e0, e1, e3, e4, e11, e12, e14, r0, r1, r2, c0]
        refine hE.stW (v := E.2.1) rfl (by omega) (by omega) fun G6 hF => ?_
        rw [add_eq] at hF
        simp (maxSteps := 300000) (disch := omega) only [gs, gs2, gs3, ↓reduceIte, Nat.reduceEqDiff, Nat.mul_one, Nat.add_zero, Nat.zero_add, Nat.zero_mul, Int.toNat_natCast, Int.reduceToNat, Nat.reduceMul, Nat.reduceAdd, decide_true, decide_false, Bool.not_true, Bool.not_false, true_and, and_true, List.map_cons, List.map_nil, List.nil_append, List.cons_append, List.append_nil, Option.map_some, Option.bind_some, List.getElem?_cons_zero, List.getElem?_cons_succ, Bool.false_eq_true, not_true_eq_false, not_false_eq_true, List.contains_cons, List.contains_nil, Nat.reduceBEq, Bool.true_or, Bool.false_or, Bool.or_true, List.set_cons_zero, List.set_cons_succ, List.length_cons, List.length_nil, isLd, Bool.true_and, Bool.false_and, Bool.and_true, Bool.and_false, e0, e1, e3, e4, e11, e12, e14]
        exact ⟨m - 1, by omega, G6, Sub.refl _, k + 1, rfl, by omega, by omega, by rw [hyS g, hyW g]; exact hF.unbox sH⟩
    · have hc := hna.2 g
      simp (maxSteps := 300000) (disch := omega) only [gs, gs2, gs3, ↓reduceIte, Nat.reduceEqDiff, Nat.mul_one, Nat.add_zero, Nat.zero_add, Nat.zero_mul, Int.toNat_natCast, Int.reduceToNat, Nat.reduceMul, Nat.reduceAdd, decide_true, decide_false, Bool.not_true, Bool.not_false, true_and, and_true, List.map_cons, List.map_nil, List.nil_append, List.cons_append, List.append_nil, Option.map_some, Option.bind_some, List.getElem?_cons_zero, List.getElem?_cons_succ, Bool.false_eq_true, not_true_eq_false, not_false_eq_true, List.contains_cons, List.contains_nil, Nat.reduceBEq, Bool.true_or, Bool.false_or, Bool.or_true, List.set_cons_zero, List.set_cons_succ, List.length_cons, List.length_nil, isLd, Bool.true_and, Bool.false_and, Bool.and_true, Bool.and_false, hc.1, hc.2, e0, e1, e3, e4, e11, e12, e14]
      exact ⟨m - 1, by omega, G2, Sub.refl _, k + 1, rfl, by omega, by omega, by rw [(hno g).1, (hno g).2]; exact hB.unbox sH⟩
  · simp (maxSteps := 300000) (disch := omega) only [gs, gs2, gs3, ↓reduceIte, Nat.reduceEqDiff, Nat.mul_one, Nat.add_zero, Nat.zero_add, Nat.zero_mul, Int.toNat_natCast, Int.reduceToNat, Nat.reduceMul, Nat.reduceAdd, decide_true, decide_false, Bool.not_true, Bool.not_false, true_and, and_true, List.map_cons, List.map_nil, List.nil_append, List.cons_append, List.append_nil, Option.map_some, Option.bind_some, List.getElem?_cons_zero, List.getElem?_cons_succ, Bool.false_eq_true, not_true_eq_false, not_false_eq_true, List.contains_cons, List.contains_nil, Nat.reduceBEq, Bool.true_or, Bool.false_or, Bool.or_true, List.set_cons_zero, List.set_cons_succ, List.length_cons, List.length_nil, isLd, Bool.true_and, Bool.false_and, Bool.and_true, Bool.and_false, hk, e0, e1, e3, e4, e11, e12, e14, f1]
    obtain rfl : k = N.edges.length := by omega
    refine hQ _ _ ?_ ?_ ?_ ?_ hA <;> simp (maxSteps := 300000) (disch := omega) only [gs, gs2, gs3, ↓reduceIte, Nat.reduceEqDiff, Nat.mul_one, Nat.add_zero, Nat.zero_add, Nat.zero_mul, Int.toNat_natCast, Int.reduceToNat, Nat.reduceMul, Nat.reduceAdd, decide_true, decide_false, Bool.not_true, Bool.not_false, true_and, and_true, List.map_cons, List.map_nil, List.nil_append, List.cons_append, List.append_nil, Option.map_some, Option.bind_some, List.getElem?_cons_zero, List.getElem?_cons_succ, Bool.false_eq_true, not_true_eq_false, not_false_eq_true, List.contains_cons, List.contains_nil, Nat.reduceBEq, Bool.true_or, Bool.false_or, Bool.or_true, List.set_cons_zero, List.set_cons_succ, List.length_cons, List.length_nil, isLd, Bool.true_and, Bool.false_and, Bool.and_true, Bool.and_false, e1, e3, e4, e11, e12, e14]
theorem l18Step_l2 {G1 Gb G' : GH} {N : Gra} {B C An : Option Addr} {d e cn bS bW cS cW : Nat} {rS rW : List Value} {xs fixed : List Int} {own lim : Int} {T : Nat → Value} {Q : Cont} (hg : IntS G1 C e fixed) (hl2 : fixed.length < 2 ^ 40) (hx : VecOk N xs) (hn : GraOk N) (ho : 0 ≤ own ∧ own ≤ 1000)
    (e1 : T 1 = .slice B xs.length d) (e4 : T 4 = .slice C fixed.length e) (e11 : T 11 = .slice (some ⟨bS, 0, none⟩) xs.length cS) (e12 : T 12 = .slice (some ⟨bW, 0, none⟩) xs.length cW) (e17 : T 17 = .slice An xs.length cn)
    (e18 : T 18 = .int .i64 0) (hA : AvG G1 Gb bS bW xs.length rS rW (avS N.edges xs own lim N.edges.length) (avW N.edges xs own lim N.edges.length)) (hN : New Gb G' An cn (xs.map I64) 1 xs.length)
    (hQ : ∀ T G', T 17 = .slice An xs.length cn → New Gb G' An cn ((avStep N.edges own lim fixed xs).map I64) 1 xs.length → Q (.ex 4) T G') : gLoop (gW Try.prog c_spec_l18Step_l2) Q T G' := by
  have hn1 := hn.1
  have hn4 := hn.2.2.2
  have hx1 := hx.1
  refine gLoop_intro (fun m T G' => ∃ k : Nat, T 1 = .slice B xs.length d ∧ T 4 = .slice C fixed.length e ∧ T 11 = .slice (some ⟨bS, 0, none⟩) xs.length cS ∧ T 12 = .slice (some ⟨bW, 0, none⟩) xs.length cW ∧ T 17 = .slice An xs.length cn ∧
    T 18 = .int .i64 k ∧ m + k = xs.length ∧ k ≤ xs.length ∧ New Gb G' An cn ((mapR (avF N.edges xs own lim fixed) k ++ xs.drop k).map I64) 1 xs.length)
    xs.length ⟨0, e1, e4, e11, e12, e17, e18, by omega, by omega, by simpa [mapR] using hN⟩ ?_
  rintro m T G' ⟨k, e1, e4, e11, e12, e17, e18, hm, hkm, hN⟩
  have hAu := hA.up hN.sub
  simp (maxSteps := 300000) (disch := omega) only [gs, gs2, gs3, ↓reduceIte, Nat.reduceEqDiff, Nat.mul_one, Nat.add_zero, Nat.zero_add, Nat.zero_mul, Int.toNat_natCast, Int.reduceToNat, Nat.reduceMul, Nat.reduceAdd, decide_true, decide_false, Bool.not_true, Bool.not_false, true_and, and_true, List.map_cons, List.map_nil, List.nil_append, List.cons_append, List.append_nil, Option.map_some, Option.bind_some, List.getElem?_cons_zero, List.getElem?_cons_succ, Bool.false_eq_true, not_true_eq_false, not_false_eq_true, List.contains_cons, List.contains_nil, Nat.reduceBEq, Bool.true_or, Bool.false_or, Bool.or_true, List.set_cons_zero, List.set_cons_succ, List.length_cons, List.length_nil, isLd, Bool.true_and, Bool.false_and, Bool.and_true, Bool.and_false, e1, e4, e11, e12, e17, e18]
  by_cases hk : (k : Int) < xs.length
  · have cS' := cell_rd hAu.s (v := (k : Int)) (by omega) (by omega)
    have cW' := cell_rd hAu.w (v := (k : Int)) (by omega) (by omega)
    rw [Int.toNat_natCast] at cS' cW'
    have a1 := av_bd hn hx ho (lim := lim) N.edges.length (Nat.le_refl _) (k : Int) (by omega) (by omega)
    have hso := hN.sn (by omega)
    have hav : ∀ y, (0 < avW N.edges xs own lim N.edges.length k ∧ ¬ (k : Int) ∈ fixed → y = nearI (avS N.edges xs own lim N.edges.length k) (avW N.edges xs own lim N.edges.length k)) → (¬ (0 < avW N.edges xs own lim N.edges.length k ∧ ¬ (k : Int) ∈ fixed) → y = xs.getD k 0) → avF N.edges xs own lim fixed k = y := fun y h1 h2 => by
      unfold avF
      by_cases hc : 0 < avW N.edges xs own lim N.edges.length k ∧ ¬ (k : Int) ∈ fixed
      · rw [if_pos hc, h1 hc]
      · rw [if_neg hc, h2 hc]; unfold xg; rw [Int.toNat_natCast]
    simp (maxSteps := 300000) (disch := omega) only [gs, gs2, gs3, ↓reduceIte, Nat.reduceEqDiff, Nat.mul_one, Nat.add_zero, Nat.zero_add, Nat.zero_mul, Int.toNat_natCast, Int.reduceToNat, Nat.reduceMul, Nat.reduceAdd, decide_true, decide_false, Bool.not_true, Bool.not_false, true_and, and_true, List.map_cons, List.map_nil, List.nil_append, List.cons_append, List.append_nil, Option.map_some, Option.bind_some, List.getElem?_cons_zero, List.getElem?_cons_succ, Bool.false_eq_true, not_true_eq_false, not_false_eq_true, List.contains_cons, List.contains_nil, Nat.reduceBEq, Bool.true_or, Bool.false_or, Bool.or_true, List.set_cons_zero, List.set_cons_succ, List.length_cons, List.length_nil, isLd, Bool.true_and, Bool.false_and, Bool.and_true, Bool.and_false, hk, e1, e4, e11, e12, e17, e18, cS', cW']
    by_cases g1 : 0 < avW N.edges xs own lim N.edges.length k
    · simp (maxSteps := 300000) (disch := omega) only [gs, gs2, gs3, ↓reduceIte, Nat.reduceEqDiff, Nat.mul_one, Nat.add_zero, Nat.zero_add, Nat.zero_mul, Int.toNat_natCast, Int.reduceToNat, Nat.reduceMul, Nat.reduceAdd, decide_true, decide_false, Bool.not_true, Bool.not_false, true_and, and_true, List.map_cons, List.map_nil, List.nil_append, List.cons_append, List.append_nil, Option.map_some, Option.bind_some, List.getElem?_cons_zero, List.getElem?_cons_succ, Bool.false_eq_true, not_true_eq_false, not_false_eq_true, List.contains_cons, List.contains_nil, Nat.reduceBEq, Bool.true_or, Bool.false_or, Bool.or_true, List.set_cons_zero, List.set_cons_succ, List.length_cons, List.length_nil, isLd, Bool.true_and, Bool.false_and, Bool.and_true, Bool.and_false, g1, e1, e4, e11, e12, e17, e18, cS', cW']
      refine spec_l00Has_ok ((hg.sub hA.sub).sub hN.sub) hl2 fun b hb => ?_
      cases b
      · have hni : ¬ (k : Int) ∈ fixed := fun x => by simpa using hb.2 x
        simp (maxSteps := 300000) (disch := omega) only [gs, gs2, gs3, ↓reduceIte, Nat.reduceEqDiff, Nat.mul_one, Nat.add_zero, Nat.zero_add, Nat.zero_mul, Int.toNat_natCast, Int.reduceToNat, Nat.reduceMul, Nat.reduceAdd, decide_true, decide_false, Bool.not_true, Bool.not_false, true_and, and_true, List.map_cons, List.map_nil, List.nil_append, List.cons_append, List.append_nil, Option.map_some, Option.bind_some, List.getElem?_cons_zero, List.getElem?_cons_succ, Bool.false_eq_true, not_true_eq_false, not_false_eq_true, List.contains_cons, List.contains_nil, Nat.reduceBEq, Bool.true_or, Bool.false_or, Bool.or_true, List.set_cons_zero, List.set_cons_succ, List.length_cons, List.length_nil, isLd, Bool.true_and, Bool.false_and, Bool.and_true, Bool.and_false, e1, e4, e11, e12, e17, e18, cS', cW']
        refine spec_l01Div_ok (by omega) (by omega) ?_
        simp (maxSteps := 300000) (disch := omega) only [gs, gs2, gs3, ↓reduceIte, Nat.reduceEqDiff, Nat.mul_one, Nat.add_zero, Nat.zero_add, Nat.zero_mul, Int.toNat_natCast, Int.reduceToNat, Nat.reduceMul, Nat.reduceAdd, decide_true, decide_false, Bool.not_true, Bool.not_false, true_and, and_true, List.map_cons, List.map_nil, List.nil_append, List.cons_append, List.append_nil, Option.map_some, Option.bind_some, List.getElem?_cons_zero, List.getElem?_cons_succ, Bool.false_eq_true, not_true_eq_false, not_false_eq_true, List.contains_cons, List.contains_nil, Nat.reduceBEq, Bool.true_or, Bool.false_or, Bool.or_true, List.set_cons_zero, List.set_cons_succ, List.length_cons, List.length_nil, isLd, Bool.true_and, Bool.false_and, Bool.and_true, Bool.and_false, e1, e4, e11, e12, e17, e18, cS', cW']
        have hF := hav _ (fun _ => rfl) (fun x => absurd ⟨g1, hni⟩ x)
        rw [← hF]
        refine hN.store (k := k) (v := .int .i64 (avF N.edges xs own lim fixed k)) (by omega) rfl fun G3 hN3 => ?_
        simp (maxSteps := 300000) (disch := omega) only [gs, gs2, gs3, ↓reduceIte, Nat.reduceEqDiff, Nat.mul_one, Nat.add_zero, Nat.zero_add, Nat.zero_mul, Int.toNat_natCast, Int.reduceToNat, Nat.reduceMul, Nat.reduceAdd, decide_true, decide_false, Bool.not_true, Bool.not_false, true_and, and_true, List.map_cons, List.map_nil, List.nil_append, List.cons_append, List.append_nil, Option.map_some, Option.bind_some, List.getElem?_cons_zero, List.getElem?_cons_succ, Bool.false_eq_true, not_true_eq_false, not_false_eq_true, List.contains_cons, List.contains_nil, Nat.reduceBEq, Bool.true_or, Bool.false_or, Bool.or_true, List.set_cons_zero, List.set_cons_succ, List.length_cons, List.length_nil, isLd, Bool.true_and, Bool.false_and, Bool.and_true, Bool.and_false, e1, e4, e11, e12, e17, e18]
        rw [set_mapR _ _ _ (by omega)] at hN3
        exact ⟨m - 1, by omega, _, Sub.refl _, k + 1, rfl, by omega, by omega, hN3⟩
      · simp (maxSteps := 300000) (disch := omega) only [gs, gs2, gs3, ↓reduceIte, Nat.reduceEqDiff, Nat.mul_one, Nat.add_zero, Nat.zero_add, Nat.zero_mul, Int.toNat_natCast, Int.reduceToNat, Nat.reduceMul, Nat.reduceAdd, decide_true, decide_false, Bool.not_true, Bool.not_false, true_and, and_true, List.map_cons, List.map_nil, List.nil_append, List.cons_append, List.append_nil, Option.map_some, Option.bind_some, List.getElem?_cons_zero, List.getElem?_cons_succ, Bool.false_eq_true, not_true_eq_false, not_false_eq_true, List.contains_cons, List.contains_nil, Nat.reduceBEq, Bool.true_or, Bool.false_or, Bool.or_true, List.set_cons_zero, List.set_cons_succ, List.length_cons, List.length_nil, isLd, Bool.true_and, Bool.false_and, Bool.and_true, Bool.and_false, e1, e4, e11, e12, e17, e18]
        have hF := hav (xs.getD k 0) (fun x => absurd (hb.1 rfl) x.2) (fun _ => rfl)
        exact ⟨m - 1, by omega, _, Sub.refl _, k + 1, rfl, by omega, by omega, by rw [keep_mapR (by omega) hF]; exact hN⟩
    · simp (maxSteps := 300000) (disch := omega) only [gs, gs2, gs3, ↓reduceIte, Nat.reduceEqDiff, Nat.mul_one, Nat.add_zero, Nat.zero_add, Nat.zero_mul, Int.toNat_natCast, Int.reduceToNat, Nat.reduceMul, Nat.reduceAdd, decide_true, decide_false, Bool.not_true, Bool.not_false, true_and, and_true, List.map_cons, List.map_nil, List.nil_append, List.cons_append, List.append_nil, Option.map_some, Option.bind_some, List.getElem?_cons_zero, List.getElem?_cons_succ, Bool.false_eq_true, not_true_eq_false, not_false_eq_true, List.contains_cons, List.contains_nil, Nat.reduceBEq, Bool.true_or, Bool.false_or, Bool.or_true, List.set_cons_zero, List.set_cons_succ, List.length_cons, List.length_nil, isLd, Bool.true_and, Bool.false_and, Bool.and_true, Bool.and_false, g1, e1, e4, e11, e12, e17, e18]
      have hF := hav (xs.getD k 0) (fun x => absurd x.1 g1) (fun _ => rfl)
      exact ⟨m - 1, by omega, _, Sub.refl _, k + 1, rfl, by omega, by omega, by rw [keep_mapR (by omega) hF]; exact hN⟩
  · simp (maxSteps := 300000) (disch := omega) only [gs, gs2, gs3, ↓reduceIte, Nat.reduceEqDiff, Nat.mul_one, Nat.add_zero, Nat.zero_add, Nat.zero_mul, Int.toNat_natCast, Int.reduceToNat, Nat.reduceMul, Nat.reduceAdd, decide_true, decide_false, Bool.not_true, Bool.not_false, true_and, and_true, List.map_cons, List.map_nil, List.nil_append, List.cons_append, List.append_nil, Option.map_some, Option.bind_some, List.getElem?_cons_zero, List.getElem?_cons_succ, Bool.false_eq_true, not_true_eq_false, not_false_eq_true, List.contains_cons, List.contains_nil, Nat.reduceBEq, Bool.true_or, Bool.false_or, Bool.or_true, List.set_cons_zero, List.set_cons_succ, List.length_cons, List.length_nil, isLd, Bool.true_and, Bool.false_and, Bool.and_true, Bool.and_false, hk, e1, e4, e11, e12, e17, e18]
    obtain rfl : k = xs.length := by omega
    refine hQ _ _ ?_ ?_
    · simp (maxSteps := 300000) (disch := omega) only [gs, gs2, gs3, ↓reduceIte, Nat.reduceEqDiff, Nat.mul_one, Nat.add_zero, Nat.zero_add, Nat.zero_mul, Int.toNat_natCast, Int.reduceToNat, Nat.reduceMul, Nat.reduceAdd, decide_true, decide_false, Bool.not_true, Bool.not_false, true_and, and_true, List.map_cons, List.map_nil, List.nil_append, List.cons_append, List.append_nil, Option.map_some, Option.bind_some, List.getElem?_cons_zero, List.getElem?_cons_succ, Bool.false_eq_true, not_true_eq_false, not_false_eq_true, List.contains_cons, List.contains_nil, Nat.reduceBEq, Bool.true_or, Bool.false_or, Bool.or_true, List.set_cons_zero, List.set_cons_succ, List.length_cons, List.length_nil, isLd, Bool.true_and, Bool.false_and, Bool.and_true, Bool.and_false, e17]
    · rw [avStep_map]
      rw [List.drop_length, List.append_nil] at hN
      exact hN
theorem spec_l18Step_ok {G : GH} {q : Option Addr} {N : Gra} {A B C : Option Addr} {c d e : Nat} {xs fixed : List Int} {own lim : Int} (h : GraP G q N A c) (hf : IntS G B d xs) (hg : IntS G C e fixed) (hl2 : fixed.length < 2 ^ 40) (hn : GraOk N) (hx : VecOk N xs) (ho : 0 ≤ own ∧ own ≤ 1000) {K : Value → GH → Prop}
    (hk : ∀ G' A' c', New G G' A' c' ((avStep N.edges own (limR lim) fixed xs).map I64) 1 xs.length → K (.slice A' xs.length c') G') : GC Try.prog 118 [.pointer q, .slice B xs.length d, .int .i64 own, .int .i64 lim, .slice C fixed.length e] G K := by
  refine GC_drop (c_spec_l18Step_i (by simp) ?_)
  have hn1 := hn.1
  have hx1 := hx.1
  simp (maxSteps := 300000) (disch := omega) only [gs, gs2, gs3, ↓reduceIte, Nat.reduceEqDiff, Nat.mul_one, Nat.add_zero, Nat.zero_add, Nat.zero_mul, Int.toNat_natCast, Int.reduceToNat, Nat.reduceMul, Nat.reduceAdd, decide_true, decide_false, Bool.not_true, Bool.not_false, true_and, and_true, List.map_cons, List.map_nil, List.nil_append, List.cons_append, List.append_nil, Option.map_some, Option.bind_some, List.getElem?_cons_zero, List.getElem?_cons_succ, Bool.false_eq_true, not_true_eq_false, not_false_eq_true, List.contains_cons, List.contains_nil, Nat.reduceBEq, Bool.true_or, Bool.false_or, Bool.or_true, List.set_cons_zero, List.set_cons_succ, List.length_cons, List.length_nil, isLd, Bool.true_and, Bool.false_and, Bool.and_true, Bool.and_false, gBs]
  refine ⟨by intro v hv; simp at hv, fun bS hbS => ?_⟩
  try simp (maxSteps := 300000) (disch := omega) only [gs, gs2, gs3, ↓reduceIte, Nat.reduceEqDiff, Nat.mul_one, Nat.add_zero, Nat.zero_add, Nat.zero_mul, Int.toNat_natCast, Int.reduceToNat, Nat.reduceMul, Nat.reduceAdd, decide_true, decide_false, Bool.not_true, Bool.not_false, true_and, and_true, List.map_cons, List.map_nil, List.nil_append, List.cons_append, List.append_nil, Option.map_some, Option.bind_some, List.getElem?_cons_zero, List.getElem?_cons_succ, Bool.false_eq_true, not_true_eq_false, not_false_eq_true, List.contains_cons, List.contains_nil, Nat.reduceBEq, Bool.true_or, Bool.false_or, Bool.or_true, List.set_cons_zero, List.set_cons_succ, List.length_cons, List.length_nil, isLd, Bool.true_and, Bool.false_and, Bool.and_true, Bool.and_false, gBs]
  refine ⟨by intro v hv; simp at hv, fun bW hbW => ?_⟩
  try simp (maxSteps := 300000) (disch := omega) only [gs, gs2, gs3, ↓reduceIte, Nat.reduceEqDiff, Nat.mul_one, Nat.add_zero, Nat.zero_add, Nat.zero_mul, Int.toNat_natCast, Int.reduceToNat, Nat.reduceMul, Nat.reduceAdd, decide_true, decide_false, Bool.not_true, Bool.not_false, true_and, and_true, List.map_cons, List.map_nil, List.nil_append, List.cons_append, List.append_nil, Option.map_some, Option.bind_some, List.getElem?_cons_zero, List.getElem?_cons_succ, Bool.false_eq_true, not_true_eq_false, not_false_eq_true, List.contains_cons, List.contains_nil, Nat.reduceBEq, Bool.true_or, Bool.false_or, Bool.or_true, List.set_cons_zero, List.set_cons_succ, List.length_cons, List.length_nil, isLd, Bool.true_and, Bool.false_and, Bool.and_true, Bool.and_false]
  refine l18Step_l0 (G1 := G) (N := N) (lim := lim) (fixed := fixed) (C := C) (A := A) (c := c) (e := e) (q := q) hf hx hn ho (by simp (maxSteps := 300000) (disch := omega) only [gs, gs2, gs3, ↓reduceIte, Nat.reduceEqDiff, Nat.mul_one, Nat.add_zero, Nat.zero_add, Nat.zero_mul, Int.toNat_natCast, Int.reduceToNat, Nat.reduceMul, Nat.reduceAdd, decide_true, decide_false, Bool.not_true, Bool.not_false, true_and, and_true, List.map_cons, List.map_nil, List.nil_append, List.cons_append, List.append_nil, Option.map_some, Option.bind_some, List.getElem?_cons_zero, List.getElem?_cons_succ, Bool.false_eq_true, not_true_eq_false, not_false_eq_true, List.contains_cons, List.contains_nil, Nat.reduceBEq, Bool.true_or, Bool.false_or, Bool.or_true, List.set_cons_zero, List.set_cons_succ, List.length_cons, List.length_nil, isLd, Bool.true_and, Bool.false_and, Bool.and_true, Bool.and_false]) (by simp (maxSteps := 300000) (disch := omega) only [gs, gs2, gs3, ↓reduceIte, Nat.reduceEqDiff, Nat.mul_one, Nat.add_zero, Nat.zero_add, Nat.zero_mul, Int.toNat_natCast, Int.reduceToNat, Nat.reduceMul, Nat.reduceAdd, decide_true, decide_false, Bool.not_true, Bool.not_false, true_and, and_true, List.map_cons, List.map_nil, List.nil_append, List.cons_append, List.append_nil, Option.map_some, Option.bind_some, List.getElem?_cons_zero, List.getElem?_cons_succ, Bool.false_eq_true, not_true_eq_false, not_false_eq_true, List.contains_cons, List.contains_nil, Nat.reduceBEq, Bool.true_or, Bool.false_or, Bool.or_true, List.set_cons_zero, List.set_cons_succ, List.length_cons, List.length_nil, isLd, Bool.true_and, Bool.false_and, Bool.and_true, Bool.and_false]) (by simp (maxSteps := 300000) (disch := omega) only [gs, gs2, gs3, ↓reduceIte, Nat.reduceEqDiff, Nat.mul_one, Nat.add_zero, Nat.zero_add, Nat.zero_mul, Int.toNat_natCast, Int.reduceToNat, Nat.reduceMul, Nat.reduceAdd, decide_true, decide_false, Bool.not_true, Bool.not_false, true_and, and_true, List.map_cons, List.map_nil, List.nil_append, List.cons_append, List.append_nil, Option.map_some, Option.bind_some, List.getElem?_cons_zero, List.getElem?_cons_succ, Bool.false_eq_true, not_true_eq_false, not_false_eq_true, List.contains_cons, List.contains_nil, Nat.reduceBEq, Bool.true_or, Bool.false_or, Bool.or_true, List.set_cons_zero, List.set_cons_succ, List.length_cons, List.length_nil, isLd, Bool.true_and, Bool.false_and, Bool.and_true, Bool.and_false]) (by simp (maxSteps := 300000) (disch := omega) only [gs, gs2, gs3, ↓reduceIte, Nat.reduceEqDiff, Nat.mul_one, Nat.add_zero, Nat.zero_add, Nat.zero_mul, Int.toNat_natCast, Int.reduceToNat, Nat.reduceMul, Nat.reduceAdd, decide_true, decide_false, Bool.not_true, Bool.not_false, true_and, and_true, List.map_cons, List.map_nil, List.nil_append, List.cons_append, List.append_nil, Option.map_some, Option.bind_some, List.getElem?_cons_zero, List.getElem?_cons_succ, Bool.false_eq_true, not_true_eq_false, not_false_eq_true, List.contains_cons, List.contains_nil, Nat.reduceBEq, Bool.true_or, Bool.false_or, Bool.or_true, List.set_cons_zero, List.set_cons_succ, List.length_cons, List.length_nil, isLd, Bool.true_and, Bool.false_and, Bool.and_true, Bool.and_false]) (by simp (maxSteps := 300000) (disch := omega) only [gs, gs2, gs3, ↓reduceIte, Nat.reduceEqDiff, Nat.mul_one, Nat.add_zero, Nat.zero_add, Nat.zero_mul, Int.toNat_natCast, Int.reduceToNat, Nat.reduceMul, Nat.reduceAdd, decide_true, decide_false, Bool.not_true, Bool.not_false, true_and, and_true, List.map_cons, List.map_nil, List.nil_append, List.cons_append, List.append_nil, Option.map_some, Option.bind_some, List.getElem?_cons_zero, List.getElem?_cons_succ, Bool.false_eq_true, not_true_eq_false, not_false_eq_true, List.contains_cons, List.contains_nil, Nat.reduceBEq, Bool.true_or, Bool.false_or, Bool.or_true, List.set_cons_zero, List.set_cons_succ, List.length_cons, List.length_nil, isLd, Bool.true_and, Bool.false_and, Bool.and_true, Bool.and_false]) (by simp (maxSteps := 300000) (disch := omega) only [gs, gs2, gs3, ↓reduceIte, Nat.reduceEqDiff, Nat.mul_one, Nat.add_zero, Nat.zero_add, Nat.zero_mul, Int.toNat_natCast, Int.reduceToNat, Nat.reduceMul, Nat.reduceAdd, decide_true, decide_false, Bool.not_true, Bool.not_false, true_and, and_true, List.map_cons, List.map_nil, List.nil_append, List.cons_append, List.append_nil, Option.map_some, Option.bind_some, List.getElem?_cons_zero, List.getElem?_cons_succ, Bool.false_eq_true, not_true_eq_false, not_false_eq_true, List.contains_cons, List.contains_nil, Nat.reduceBEq, Bool.true_or, Bool.false_or, Bool.or_true, List.set_cons_zero, List.set_cons_succ, List.length_cons, List.length_nil, isLd, Bool.true_and, Bool.false_and, Bool.and_true, Bool.and_false] <;> rfl) (by simp (maxSteps := 300000) (disch := omega) only [gs, gs2, gs3, ↓reduceIte, Nat.reduceEqDiff, Nat.mul_one, Nat.add_zero, Nat.zero_add, Nat.zero_mul, Int.toNat_natCast, Int.reduceToNat, Nat.reduceMul, Nat.reduceAdd, decide_true, decide_false, Bool.not_true, Bool.not_false, true_and, and_true, List.map_cons, List.map_nil, List.nil_append, List.cons_append, List.append_nil, Option.map_some, Option.bind_some, List.getElem?_cons_zero, List.getElem?_cons_succ, Bool.false_eq_true, not_true_eq_false, not_false_eq_true, List.contains_cons, List.contains_nil, Nat.reduceBEq, Bool.true_or, Bool.false_or, Bool.or_true, List.set_cons_zero, List.set_cons_succ, List.length_cons, List.length_nil, isLd, Bool.true_and, Bool.false_and, Bool.and_true, Bool.and_false] <;> rfl) (by simp (maxSteps := 300000) (disch := omega) only [gs, gs2, gs3, ↓reduceIte, Nat.reduceEqDiff, Nat.mul_one, Nat.add_zero, Nat.zero_add, Nat.zero_mul, Int.toNat_natCast, Int.reduceToNat, Nat.reduceMul, Nat.reduceAdd, decide_true, decide_false, Bool.not_true, Bool.not_false, true_and, and_true, List.map_cons, List.map_nil, List.nil_append, List.cons_append, List.append_nil, Option.map_some, Option.bind_some, List.getElem?_cons_zero, List.getElem?_cons_succ, Bool.false_eq_true, not_true_eq_false, not_false_eq_true, List.contains_cons, List.contains_nil, Nat.reduceBEq, Bool.true_or, Bool.false_or, Bool.or_true, List.set_cons_zero, List.set_cons_succ, List.length_cons, List.length_nil, isLd, Bool.true_and, Bool.false_and, Bool.and_true, Bool.and_false] <;> rfl) hbS hbW rfl fun T G3 bS bW cS cW rS rW e0 e1 e3 e4 e11 e12 hA => ?_
  simp (maxSteps := 300000) (disch := omega) only [gs, gs2, gs3, ↓reduceIte, Nat.reduceEqDiff, Nat.mul_one, Nat.add_zero, Nat.zero_add, Nat.zero_mul, Int.toNat_natCast, Int.reduceToNat, Nat.reduceMul, Nat.reduceAdd, decide_true, decide_false, Bool.not_true, Bool.not_false, true_and, and_true, List.map_cons, List.map_nil, List.nil_append, List.cons_append, List.append_nil, Option.map_some, Option.bind_some, List.getElem?_cons_zero, List.getElem?_cons_succ, Bool.false_eq_true, not_true_eq_false, not_false_eq_true, List.contains_cons, List.contains_nil, Nat.reduceBEq, Bool.true_or, Bool.false_or, Bool.or_true, List.set_cons_zero, List.set_cons_succ, List.length_cons, List.length_nil, isLd, Bool.true_and, Bool.false_and, Bool.and_true, Bool.and_false, e0, e1, e3, e4, e11, e12]
  refine l18Step_l1 (C := C) (e := e) (fixed := fixed) (lim := lim) (cS := cS) (cW := cW) h hf hx hn ho (by simp (maxSteps := 300000) (disch := omega) only [gs, gs2, gs3, ↓reduceIte, Nat.reduceEqDiff, Nat.mul_one, Nat.add_zero, Nat.zero_add, Nat.zero_mul, Int.toNat_natCast, Int.reduceToNat, Nat.reduceMul, Nat.reduceAdd, decide_true, decide_false, Bool.not_true, Bool.not_false, true_and, and_true, List.map_cons, List.map_nil, List.nil_append, List.cons_append, List.append_nil, Option.map_some, Option.bind_some, List.getElem?_cons_zero, List.getElem?_cons_succ, Bool.false_eq_true, not_true_eq_false, not_false_eq_true, List.contains_cons, List.contains_nil, Nat.reduceBEq, Bool.true_or, Bool.false_or, Bool.or_true, List.set_cons_zero, List.set_cons_succ, List.length_cons, List.length_nil, isLd, Bool.true_and, Bool.false_and, Bool.and_true, Bool.and_false, e0]) (by simp (maxSteps := 300000) (disch := omega) only [gs, gs2, gs3, ↓reduceIte, Nat.reduceEqDiff, Nat.mul_one, Nat.add_zero, Nat.zero_add, Nat.zero_mul, Int.toNat_natCast, Int.reduceToNat, Nat.reduceMul, Nat.reduceAdd, decide_true, decide_false, Bool.not_true, Bool.not_false, true_and, and_true, List.map_cons, List.map_nil, List.nil_append, List.cons_append, List.append_nil, Option.map_some, Option.bind_some, List.getElem?_cons_zero, List.getElem?_cons_succ, Bool.false_eq_true, not_true_eq_false, not_false_eq_true, List.contains_cons, List.contains_nil, Nat.reduceBEq, Bool.true_or, Bool.false_or, Bool.or_true, List.set_cons_zero, List.set_cons_succ, List.length_cons, List.length_nil, isLd, Bool.true_and, Bool.false_and, Bool.and_true, Bool.and_false, e1]) (by simp (maxSteps := 300000) (disch := omega) only [gs, gs2, gs3, ↓reduceIte, Nat.reduceEqDiff, Nat.mul_one, Nat.add_zero, Nat.zero_add, Nat.zero_mul, Int.toNat_natCast, Int.reduceToNat, Nat.reduceMul, Nat.reduceAdd, decide_true, decide_false, Bool.not_true, Bool.not_false, true_and, and_true, List.map_cons, List.map_nil, List.nil_append, List.cons_append, List.append_nil, Option.map_some, Option.bind_some, List.getElem?_cons_zero, List.getElem?_cons_succ, Bool.false_eq_true, not_true_eq_false, not_false_eq_true, List.contains_cons, List.contains_nil, Nat.reduceBEq, Bool.true_or, Bool.false_or, Bool.or_true, List.set_cons_zero, List.set_cons_succ, List.length_cons, List.length_nil, isLd, Bool.true_and, Bool.false_and, Bool.and_true, Bool.and_false, e3]) (by simp (maxSteps := 300000) (disch := omega) only [gs, gs2, gs3, ↓reduceIte, Nat.reduceEqDiff, Nat.mul_one, Nat.add_zero, Nat.zero_add, Nat.zero_mul, Int.toNat_natCast, Int.reduceToNat, Nat.reduceMul, Nat.reduceAdd, decide_true, decide_false, Bool.not_true, Bool.not_false, true_and, and_true, List.map_cons, List.map_nil, List.nil_append, List.cons_append, List.append_nil, Option.map_some, Option.bind_some, List.getElem?_cons_zero, List.getElem?_cons_succ, Bool.false_eq_true, not_true_eq_false, not_false_eq_true, List.contains_cons, List.contains_nil, Nat.reduceBEq, Bool.true_or, Bool.false_or, Bool.or_true, List.set_cons_zero, List.set_cons_succ, List.length_cons, List.length_nil, isLd, Bool.true_and, Bool.false_and, Bool.and_true, Bool.and_false, e4]) (by simp (maxSteps := 300000) (disch := omega) only [gs, gs2, gs3, ↓reduceIte, Nat.reduceEqDiff, Nat.mul_one, Nat.add_zero, Nat.zero_add, Nat.zero_mul, Int.toNat_natCast, Int.reduceToNat, Nat.reduceMul, Nat.reduceAdd, decide_true, decide_false, Bool.not_true, Bool.not_false, true_and, and_true, List.map_cons, List.map_nil, List.nil_append, List.cons_append, List.append_nil, Option.map_some, Option.bind_some, List.getElem?_cons_zero, List.getElem?_cons_succ, Bool.false_eq_true, not_true_eq_false, not_false_eq_true, List.contains_cons, List.contains_nil, Nat.reduceBEq, Bool.true_or, Bool.false_or, Bool.or_true, List.set_cons_zero, List.set_cons_succ, List.length_cons, List.length_nil, isLd, Bool.true_and, Bool.false_and, Bool.and_true, Bool.and_false, e11]) (by simp (maxSteps := 300000) (disch := omega) only [gs, gs2, gs3, ↓reduceIte, Nat.reduceEqDiff, Nat.mul_one, Nat.add_zero, Nat.zero_add, Nat.zero_mul, Int.toNat_natCast, Int.reduceToNat, Nat.reduceMul, Nat.reduceAdd, decide_true, decide_false, Bool.not_true, Bool.not_false, true_and, and_true, List.map_cons, List.map_nil, List.nil_append, List.cons_append, List.append_nil, Option.map_some, Option.bind_some, List.getElem?_cons_zero, List.getElem?_cons_succ, Bool.false_eq_true, not_true_eq_false, not_false_eq_true, List.contains_cons, List.contains_nil, Nat.reduceBEq, Bool.true_or, Bool.false_or, Bool.or_true, List.set_cons_zero, List.set_cons_succ, List.length_cons, List.length_nil, isLd, Bool.true_and, Bool.false_and, Bool.and_true, Bool.and_false, e12]) (by simp (maxSteps := 300000) (disch := omega) only [gs, gs2, gs3, ↓reduceIte, Nat.reduceEqDiff, Nat.mul_one, Nat.add_zero, Nat.zero_add, Nat.zero_mul, Int.toNat_natCast, Int.reduceToNat, Nat.reduceMul, Nat.reduceAdd, decide_true, decide_false, Bool.not_true, Bool.not_false, true_and, and_true, List.map_cons, List.map_nil, List.nil_append, List.cons_append, List.append_nil, Option.map_some, Option.bind_some, List.getElem?_cons_zero, List.getElem?_cons_succ, Bool.false_eq_true, not_true_eq_false, not_false_eq_true, List.contains_cons, List.contains_nil, Nat.reduceBEq, Bool.true_or, Bool.false_or, Bool.or_true, List.set_cons_zero, List.set_cons_succ, List.length_cons, List.length_nil, isLd, Bool.true_and, Bool.false_and, Bool.and_true, Bool.and_false] <;> rfl) hA fun T G4 e1 e4 e11 e12 hA => ?_
  simp (maxSteps := 300000) (disch := omega) only [gs, gs2, gs3, ↓reduceIte, Nat.reduceEqDiff, Nat.mul_one, Nat.add_zero, Nat.zero_add, Nat.zero_mul, Int.toNat_natCast, Int.reduceToNat, Nat.reduceMul, Nat.reduceAdd, decide_true, decide_false, Bool.not_true, Bool.not_false, true_and, and_true, List.map_cons, List.map_nil, List.nil_append, List.cons_append, List.append_nil, Option.map_some, Option.bind_some, List.getElem?_cons_zero, List.getElem?_cons_succ, Bool.false_eq_true, not_true_eq_false, not_false_eq_true, List.contains_cons, List.contains_nil, Nat.reduceBEq, Bool.true_or, Bool.false_or, Bool.or_true, List.set_cons_zero, List.set_cons_succ, List.length_cons, List.length_nil, isLd, Bool.true_and, Bool.false_and, Bool.and_true, Bool.and_false, e1, e4, e11, e12]
  refine spec_l00Own_ok (hf.sub hA.sub) (by omega) fun G5 An cn hN => ?_
  simp (maxSteps := 300000) (disch := omega) only [gs, gs2, gs3, ↓reduceIte, Nat.reduceEqDiff, Nat.mul_one, Nat.add_zero, Nat.zero_add, Nat.zero_mul, Int.toNat_natCast, Int.reduceToNat, Nat.reduceMul, Nat.reduceAdd, decide_true, decide_false, Bool.not_true, Bool.not_false, true_and, and_true, List.map_cons, List.map_nil, List.nil_append, List.cons_append, List.append_nil, Option.map_some, Option.bind_some, List.getElem?_cons_zero, List.getElem?_cons_succ, Bool.false_eq_true, not_true_eq_false, not_false_eq_true, List.contains_cons, List.contains_nil, Nat.reduceBEq, Bool.true_or, Bool.false_or, Bool.or_true, List.set_cons_zero, List.set_cons_succ, List.length_cons, List.length_nil, isLd, Bool.true_and, Bool.false_and, Bool.and_true, Bool.and_false, e1, e4, e11, e12]
  refine l18Step_l2 (B := B) (d := d) (lim := limR lim) (cS := cS) (cW := cW) hg hl2 hx hn ho (by simp (maxSteps := 300000) (disch := omega) only [gs, gs2, gs3, ↓reduceIte, Nat.reduceEqDiff, Nat.mul_one, Nat.add_zero, Nat.zero_add, Nat.zero_mul, Int.toNat_natCast, Int.reduceToNat, Nat.reduceMul, Nat.reduceAdd, decide_true, decide_false, Bool.not_true, Bool.not_false, true_and, and_true, List.map_cons, List.map_nil, List.nil_append, List.cons_append, List.append_nil, Option.map_some, Option.bind_some, List.getElem?_cons_zero, List.getElem?_cons_succ, Bool.false_eq_true, not_true_eq_false, not_false_eq_true, List.contains_cons, List.contains_nil, Nat.reduceBEq, Bool.true_or, Bool.false_or, Bool.or_true, List.set_cons_zero, List.set_cons_succ, List.length_cons, List.length_nil, isLd, Bool.true_and, Bool.false_and, Bool.and_true, Bool.and_false, e1]) (by simp (maxSteps := 300000) (disch := omega) only [gs, gs2, gs3, ↓reduceIte, Nat.reduceEqDiff, Nat.mul_one, Nat.add_zero, Nat.zero_add, Nat.zero_mul, Int.toNat_natCast, Int.reduceToNat, Nat.reduceMul, Nat.reduceAdd, decide_true, decide_false, Bool.not_true, Bool.not_false, true_and, and_true, List.map_cons, List.map_nil, List.nil_append, List.cons_append, List.append_nil, Option.map_some, Option.bind_some, List.getElem?_cons_zero, List.getElem?_cons_succ, Bool.false_eq_true, not_true_eq_false, not_false_eq_true, List.contains_cons, List.contains_nil, Nat.reduceBEq, Bool.true_or, Bool.false_or, Bool.or_true, List.set_cons_zero, List.set_cons_succ, List.length_cons, List.length_nil, isLd, Bool.true_and, Bool.false_and, Bool.and_true, Bool.and_false, e4]) (by simp (maxSteps := 300000) (disch := omega) only [gs, gs2, gs3, ↓reduceIte, Nat.reduceEqDiff, Nat.mul_one, Nat.add_zero, Nat.zero_add, Nat.zero_mul, Int.toNat_natCast, Int.reduceToNat, Nat.reduceMul, Nat.reduceAdd, decide_true, decide_false, Bool.not_true, Bool.not_false, true_and, and_true, List.map_cons, List.map_nil, List.nil_append, List.cons_append, List.append_nil, Option.map_some, Option.bind_some, List.getElem?_cons_zero, List.getElem?_cons_succ, Bool.false_eq_true, not_true_eq_false, not_false_eq_true, List.contains_cons, List.contains_nil, Nat.reduceBEq, Bool.true_or, Bool.false_or, Bool.or_true, List.set_cons_zero, List.set_cons_succ, List.length_cons, List.length_nil, isLd, Bool.true_and, Bool.false_and, Bool.and_true, Bool.and_false, e11]) (by simp (maxSteps := 300000) (disch := omega) only [gs, gs2, gs3, ↓reduceIte, Nat.reduceEqDiff, Nat.mul_one, Nat.add_zero, Nat.zero_add, Nat.zero_mul, Int.toNat_natCast, Int.reduceToNat, Nat.reduceMul, Nat.reduceAdd, decide_true, decide_false, Bool.not_true, Bool.not_false, true_and, and_true, List.map_cons, List.map_nil, List.nil_append, List.cons_append, List.append_nil, Option.map_some, Option.bind_some, List.getElem?_cons_zero, List.getElem?_cons_succ, Bool.false_eq_true, not_true_eq_false, not_false_eq_true, List.contains_cons, List.contains_nil, Nat.reduceBEq, Bool.true_or, Bool.false_or, Bool.or_true, List.set_cons_zero, List.set_cons_succ, List.length_cons, List.length_nil, isLd, Bool.true_and, Bool.false_and, Bool.and_true, Bool.and_false, e12]) (by simp (maxSteps := 300000) (disch := omega) only [gs, gs2, gs3, ↓reduceIte, Nat.reduceEqDiff, Nat.mul_one, Nat.add_zero, Nat.zero_add, Nat.zero_mul, Int.toNat_natCast, Int.reduceToNat, Nat.reduceMul, Nat.reduceAdd, decide_true, decide_false, Bool.not_true, Bool.not_false, true_and, and_true, List.map_cons, List.map_nil, List.nil_append, List.cons_append, List.append_nil, Option.map_some, Option.bind_some, List.getElem?_cons_zero, List.getElem?_cons_succ, Bool.false_eq_true, not_true_eq_false, not_false_eq_true, List.contains_cons, List.contains_nil, Nat.reduceBEq, Bool.true_or, Bool.false_or, Bool.or_true, List.set_cons_zero, List.set_cons_succ, List.length_cons, List.length_nil, isLd, Bool.true_and, Bool.false_and, Bool.and_true, Bool.and_false]) (by simp (maxSteps := 300000) (disch := omega) only [gs, gs2, gs3, ↓reduceIte, Nat.reduceEqDiff, Nat.mul_one, Nat.add_zero, Nat.zero_add, Nat.zero_mul, Int.toNat_natCast, Int.reduceToNat, Nat.reduceMul, Nat.reduceAdd, decide_true, decide_false, Bool.not_true, Bool.not_false, true_and, and_true, List.map_cons, List.map_nil, List.nil_append, List.cons_append, List.append_nil, Option.map_some, Option.bind_some, List.getElem?_cons_zero, List.getElem?_cons_succ, Bool.false_eq_true, not_true_eq_false, not_false_eq_true, List.contains_cons, List.contains_nil, Nat.reduceBEq, Bool.true_or, Bool.false_or, Bool.or_true, List.set_cons_zero, List.set_cons_succ, List.length_cons, List.length_nil, isLd, Bool.true_and, Bool.false_and, Bool.and_true, Bool.and_false] <;> rfl) hA hN fun T G6 e17 hN => ?_
  simp (maxSteps := 300000) (disch := omega) only [gs, gs2, gs3, ↓reduceIte, Nat.reduceEqDiff, Nat.mul_one, Nat.add_zero, Nat.zero_add, Nat.zero_mul, Int.toNat_natCast, Int.reduceToNat, Nat.reduceMul, Nat.reduceAdd, decide_true, decide_false, Bool.not_true, Bool.not_false, true_and, and_true, List.map_cons, List.map_nil, List.nil_append, List.cons_append, List.append_nil, Option.map_some, Option.bind_some, List.getElem?_cons_zero, List.getElem?_cons_succ, Bool.false_eq_true, not_true_eq_false, not_false_eq_true, List.contains_cons, List.contains_nil, Nat.reduceBEq, Bool.true_or, Bool.false_or, Bool.or_true, List.set_cons_zero, List.set_cons_succ, List.length_cons, List.length_nil, isLd, Bool.true_and, Bool.false_and, Bool.and_true, Bool.and_false, e17]
  obtain ⟨G'', s2, hN2⟩ := hN.low hA.sub
  exact ⟨G'', s2, hk _ _ _ hN2⟩
theorem impl_averageRest_ok {G : GH} {N : Gra} {A B C : Option Addr} {c d e : Nat} {xs fixed : List Int} {own : Int} (h : T3S G A c N.edges) (hf : IntS G B d xs) (hg : IntS G C e fixed) (hl2 : fixed.length < 2 ^ 40) (hn : GraOk N) (hx : VecOk N xs) (ho : 0 ≤ own ∧ own ≤ 1000) {K : Value → GH → Prop}
    (hk : restI (restF (avStep N.edges own 2000000 fixed) 1001 0 xs) K G) : GC Try.prog 125 [graV N A c, .slice B xs.length d, .int .i64 own, .slice C fixed.length e] G K := by
  refine GC_drop (c_impl_averageRest_i (by simp) ?_)
  have hn1 := hn.1
  unfold graV graC
  simp (maxSteps := 300000) (disch := omega) only [gs, gs2, gs3, ↓reduceIte, Nat.reduceEqDiff, Nat.mul_one, Nat.add_zero, Nat.zero_add, Nat.zero_mul, Int.toNat_natCast, Int.reduceToNat, Nat.reduceMul, Nat.reduceAdd, decide_true, decide_false, Bool.not_true, Bool.not_false, true_and, and_true, List.map_cons, List.map_nil, List.nil_append, List.cons_append, List.append_nil, Option.map_some, Option.bind_some, List.getElem?_cons_zero, List.getElem?_cons_succ, Bool.false_eq_true, not_true_eq_false, not_false_eq_true, List.contains_cons, List.contains_nil, Nat.reduceBEq, Bool.true_or, Bool.false_or, Bool.or_true, List.set_cons_zero, List.set_cons_succ, List.length_cons, List.length_nil, isLd, Bool.true_and, Bool.false_and, Bool.and_true, Bool.and_false]
  intro b4 hb4
  simp (maxSteps := 300000) (disch := omega) only [gs, gs2, gs3, ↓reduceIte, Nat.reduceEqDiff, Nat.mul_one, Nat.add_zero, Nat.zero_add, Nat.zero_mul, Int.toNat_natCast, Int.reduceToNat, Nat.reduceMul, Nat.reduceAdd, decide_true, decide_false, Bool.not_true, Bool.not_false, true_and, and_true, List.map_cons, List.map_nil, List.nil_append, List.cons_append, List.append_nil, Option.map_some, Option.bind_some, List.getElem?_cons_zero, List.getElem?_cons_succ, Bool.false_eq_true, not_true_eq_false, not_false_eq_true, List.contains_cons, List.contains_nil, Nat.reduceBEq, Bool.true_or, Bool.false_or, Bool.or_true, List.set_cons_zero, List.set_cons_succ, List.length_cons, List.length_nil, isLd, Bool.true_and, Bool.false_and, Bool.and_true, Bool.and_false]
  intro b6 hb6
  simp (maxSteps := 300000) (disch := omega) only [gs, gs2, gs3, ↓reduceIte, Nat.reduceEqDiff, Nat.mul_one, Nat.add_zero, Nat.zero_add, Nat.zero_mul, Int.toNat_natCast, Int.reduceToNat, Nat.reduceMul, Nat.reduceAdd, decide_true, decide_false, Bool.not_true, Bool.not_false, true_and, and_true, List.map_cons, List.map_nil, List.nil_append, List.cons_append, List.append_nil, Option.map_some, Option.bind_some, List.getElem?_cons_zero, List.getElem?_cons_succ, Bool.false_eq_true, not_true_eq_false, not_false_eq_true, List.contains_cons, List.contains_nil, Nat.reduceBEq, Bool.true_or, Bool.false_or, Bool.or_true, List.set_cons_zero, List.set_cons_succ, List.length_cons, List.length_nil, isLd, Bool.true_and, Bool.false_and, Bool.and_true, Bool.and_false]
  intro b7 hb7
  have q6 := hb6
  have q7 := hb7
  simp only [put_none] at q6 q7
  have s1 := (((Sub.refl G).skip hb4 (e := ⟨[.int .i64 N.n, .slice A N.edges.length c], true⟩)).skip q6.2 (e := ⟨[.int .i64 own], true⟩)).skip q7.2.2 (e := ⟨[.slice C fixed.length e], true⟩)
  have f0 : rd (put (put (put G b4 ⟨[.int .i64 N.n, .slice A N.edges.length c], true⟩) b6 ⟨[.int .i64 own], true⟩) b7 ⟨[.slice C fixed.length e], true⟩) (some ⟨b4, 0, none⟩) = some (.int .i64 N.n) := by
    rw [rd_put_ne _ _ _ _ _ (fun x => q7.2.1 x.symm), rd_put_ne _ _ _ _ _ (fun x => q6.1 x.symm)]; exact rd_box _ _ _ 0 _ rfl
  have f1 : rd (put (put (put G b4 ⟨[.int .i64 N.n, .slice A N.edges.length c], true⟩) b6 ⟨[.int .i64 own], true⟩) b7 ⟨[.slice C fixed.length e], true⟩) (some ⟨b4, 1, none⟩) = some (.slice A N.edges.length c) := by
    rw [rd_put_ne _ _ _ _ _ (fun x => q7.2.1 x.symm), rd_put_ne _ _ _ _ _ (fun x => q6.1 x.symm)]; exact rd_box _ _ _ 1 _ rfl
  have f6 : rd (put (put (put G b4 ⟨[.int .i64 N.n, .slice A N.edges.length c], true⟩) b6 ⟨[.int .i64 own], true⟩) b7 ⟨[.slice C fixed.length e], true⟩) (some ⟨b6, 0, none⟩) = some (.int .i64 own) := by
    rw [rd_put_ne _ _ _ _ _ (fun x => q7.1 x.symm)]; exact rd_box _ _ _ 0 _ rfl
  have f7 : rd (put (put (put G b4 ⟨[.int .i64 N.n, .slice A N.edges.length c], true⟩) b6 ⟨[.int .i64 own], true⟩) b7 ⟨[.slice C fixed.length e], true⟩) (some ⟨b7, 0, none⟩) = some (.slice C fixed.length e) := rd_box _ _ _ 0 _ rfl
  simp (maxSteps := 300000) (disch := omega) only [gs, gs2, gs3, ↓reduceIte, Nat.reduceEqDiff, Nat.mul_one, Nat.add_zero, Nat.zero_add, Nat.zero_mul, Int.toNat_natCast, Int.reduceToNat, Nat.reduceMul, Nat.reduceAdd, decide_true, decide_false, Bool.not_true, Bool.not_false, true_and, and_true, List.map_cons, List.map_nil, List.nil_append, List.cons_append, List.append_nil, Option.map_some, Option.bind_some, List.getElem?_cons_zero, List.getElem?_cons_succ, Bool.false_eq_true, not_true_eq_false, not_false_eq_true, List.contains_cons, List.contains_nil, Nat.reduceBEq, Bool.true_or, Bool.false_or, Bool.or_true, List.set_cons_zero, List.set_cons_succ, List.length_cons, List.length_nil, isLd, Bool.true_and, Bool.false_and, Bool.and_true, Bool.and_false]
  revert s1 f0 f1 f6 f7
  generalize put (put (put G b4 ⟨[.int .i64 N.n, .slice A N.edges.length c], true⟩) b6 ⟨[.int .i64 own], true⟩) b7 ⟨[.slice C fixed.length e], true⟩ = G1
  intro s1 f0 f1 f6 f7
  refine impl_rest_ok (VecOk N) (avStep N.edges own 2000000 fixed) (fun x hx => avStep_ok hn hx ho fixed) (fun x hx => by have := hx.1; omega) hx (hf.sub s1) (fun G' A' c' x s hx' hPx K' hK' => ?_) ?_
  · simp (maxSteps := 300000) (disch := omega) only [gs, gs2, gs3, ↓reduceIte, Nat.reduceEqDiff, Nat.mul_one, Nat.add_zero, Nat.zero_add, Nat.zero_mul, Int.toNat_natCast, Int.reduceToNat, Nat.reduceMul, Nat.reduceAdd, decide_true, decide_false, Bool.not_true, Bool.not_false, true_and, and_true, List.map_cons, List.map_nil, List.nil_append, List.cons_append, List.append_nil, Option.map_some, Option.bind_some, List.getElem?_cons_zero, List.getElem?_cons_succ, Bool.false_eq_true, not_true_eq_false, not_false_eq_true, List.contains_cons, List.contains_nil, Nat.reduceBEq, Bool.true_or, Bool.false_or, Bool.or_true, List.set_cons_zero, List.set_cons_succ, List.length_cons, List.length_nil, isLd, Bool.true_and, Bool.false_and, Bool.and_true, Bool.and_false]
    refine c_impl_averageRest_fn1_i (by simp) ?_
    have f0' := rd_sub s f0
    have f1' := rd_sub s f1
    have f6' := rd_sub s f6
    have f7' := rd_sub s f7
    simp (maxSteps := 300000) (disch := omega) only [gs, gs2, gs3, ↓reduceIte, Nat.reduceEqDiff, Nat.mul_one, Nat.add_zero, Nat.zero_add, Nat.zero_mul, Int.toNat_natCast, Int.reduceToNat, Nat.reduceMul, Nat.reduceAdd, decide_true, decide_false, Bool.not_true, Bool.not_false, true_and, and_true, List.map_cons, List.map_nil, List.nil_append, List.cons_append, List.append_nil, Option.map_some, Option.bind_some, List.getElem?_cons_zero, List.getElem?_cons_succ, Bool.false_eq_true, not_true_eq_false, not_false_eq_true, List.contains_cons, List.contains_nil, Nat.reduceBEq, Bool.true_or, Bool.false_or, Bool.or_true, List.set_cons_zero, List.set_cons_succ, List.length_cons, List.length_nil, isLd, Bool.true_and, Bool.false_and, Bool.and_true, Bool.and_false, f0', f1', f6', f7']
    refine impl_averaged_ok (N := N) ((h.sub s1).sub s) hx' ((hg.sub s1).sub s) hl2 hn hPx ho fun G2 A2 c2 hN => ?_
    simp (maxSteps := 300000) (disch := omega) only [gs, gs2, gs3, ↓reduceIte, Nat.reduceEqDiff, Nat.mul_one, Nat.add_zero, Nat.zero_add, Nat.zero_mul, Int.toNat_natCast, Int.reduceToNat, Nat.reduceMul, Nat.reduceAdd, decide_true, decide_false, Bool.not_true, Bool.not_false, true_and, and_true, List.map_cons, List.map_nil, List.nil_append, List.cons_append, List.append_nil, Option.map_some, Option.bind_some, List.getElem?_cons_zero, List.getElem?_cons_succ, Bool.false_eq_true, not_true_eq_false, not_false_eq_true, List.contains_cons, List.contains_nil, Nat.reduceBEq, Bool.true_or, Bool.false_or, Bool.or_true, List.set_cons_zero, List.set_cons_succ, List.length_cons, List.length_nil, isLd, Bool.true_and, Bool.false_and, Bool.and_true, Bool.and_false]
    have := hK' _ _ _ (hN.cast rfl (avStep_len _ _ _ _ _).symm)
    rw [avStep_len] at this
    exact this
  · refine ⟨fun h0 G' A' c' hN => ?_, fun h0 => ?_⟩
    · simp (maxSteps := 300000) (disch := omega) only [gs, gs2, gs3, ↓reduceIte, Nat.reduceEqDiff, Nat.mul_one, Nat.add_zero, Nat.zero_add, Nat.zero_mul, Int.toNat_natCast, Int.reduceToNat, Nat.reduceMul, Nat.reduceAdd, decide_true, decide_false, Bool.not_true, Bool.not_false, true_and, and_true, List.map_cons, List.map_nil, List.nil_append, List.cons_append, List.append_nil, Option.map_some, Option.bind_some, List.getElem?_cons_zero, List.getElem?_cons_succ, Bool.false_eq_true, not_true_eq_false, not_false_eq_true, List.contains_cons, List.contains_nil, Nat.reduceBEq, Bool.true_or, Bool.false_or, Bool.or_true, List.set_cons_zero, List.set_cons_succ, List.length_cons, List.length_nil, isLd, Bool.true_and, Bool.false_and, Bool.and_true, Bool.and_false]
      obtain ⟨G'', s2, hN2⟩ := hN.low s1
      exact ⟨G'', s2, hk.1 h0 _ _ _ hN2⟩
    · simp (maxSteps := 300000) (disch := omega) only [gs, gs2, gs3, ↓reduceIte, Nat.reduceEqDiff, Nat.mul_one, Nat.add_zero, Nat.zero_add, Nat.zero_mul, Int.toNat_natCast, Int.reduceToNat, Nat.reduceMul, Nat.reduceAdd, decide_true, decide_false, Bool.not_true, Bool.not_false, true_and, and_true, List.map_cons, List.map_nil, List.nil_append, List.cons_append, List.append_nil, Option.map_some, Option.bind_some, List.getElem?_cons_zero, List.getElem?_cons_succ, Bool.false_eq_true, not_true_eq_false, not_false_eq_true, List.contains_cons, List.contains_nil, Nat.reduceBEq, Bool.true_or, Bool.false_or, Bool.or_true, List.set_cons_zero, List.set_cons_succ, List.length_cons, List.length_nil, isLd, Bool.true_and, Bool.false_and, Bool.and_true, Bool.and_false]
      exact ⟨G, s1, hk.2 h0⟩
theorem spec_l18Rest_ok {G : GH} {q : Option Addr} {N : Gra} {A B C : Option Addr} {c d e : Nat} {xs fixed : List Int} {own : Int} (h : GraP G q N A c) (hf : IntS G B d xs) (hg : IntS G C e fixed) (hl2 : fixed.length < 2 ^ 40) (hn : GraOk N) (hx : VecOk N xs) (ho : 0 ≤ own ∧ own ≤ 1000) {K : Value → GH → Prop}
    (hk : ∀ G' A' c', New G G' A' c' ((restF (avStep N.edges own 2000000 fixed) 1001 0 xs).2.map I64) 1 (restF (avStep N.edges own 2000000 fixed) 1001 0 xs).2.length → K (.tuple [.int .i64 (restF (avStep N.edges own 2000000 fixed) 1001 0 xs).1, .slice A' (restF (avStep N.edges own 2000000 fixed) 1001 0 xs).2.length c'].toArray) G') :
    GC Try.prog 124 [.pointer q, .slice B xs.length d, .int .i64 own, .slice C fixed.length e] G K := by
  refine GC_drop (c_spec_l18Rest_i (by simp) ?_)
  have hn1 := hn.1
  have hx1 := hx.1
  simp (maxSteps := 300000) (disch := omega) only [gs, gs2, gs3, ↓reduceIte, Nat.reduceEqDiff, Nat.mul_one, Nat.add_zero, Nat.zero_add, Nat.zero_mul, Int.toNat_natCast, Int.reduceToNat, Nat.reduceMul, Nat.reduceAdd, decide_true, decide_false, Bool.not_true, Bool.not_false, true_and, and_true, List.map_cons, List.map_nil, List.nil_append, List.cons_append, List.append_nil, Option.map_some, Option.bind_some, List.getElem?_cons_zero, List.getElem?_cons_succ, Bool.false_eq_true, not_true_eq_false, not_false_eq_true, List.contains_cons, List.contains_nil, Nat.reduceBEq, Bool.true_or, Bool.false_or, Bool.or_true, List.set_cons_zero, List.set_cons_succ, List.length_cons, List.length_nil, isLd, Bool.true_and, Bool.false_and, Bool.and_true, Bool.and_false]
  refine spec_l00Own_ok hf (by omega) fun G2 Ao co hO => ?_
  simp (maxSteps := 300000) (disch := omega) only [gs, gs2, gs3, ↓reduceIte, Nat.reduceEqDiff, Nat.mul_one, Nat.add_zero, Nat.zero_add, Nat.zero_mul, Int.toNat_natCast, Int.reduceToNat, Nat.reduceMul, Nat.reduceAdd, decide_true, decide_false, Bool.not_true, Bool.not_false, true_and, and_true, List.map_cons, List.map_nil, List.nil_append, List.cons_append, List.append_nil, Option.map_some, Option.bind_some, List.getElem?_cons_zero, List.getElem?_cons_succ, Bool.false_eq_true, not_true_eq_false, not_false_eq_true, List.contains_cons, List.contains_nil, Nat.reduceBEq, Bool.true_or, Bool.false_or, Bool.or_true, List.set_cons_zero, List.set_cons_succ, List.length_cons, List.length_nil, isLd, Bool.true_and, Bool.false_and, Bool.and_true, Bool.and_false]
  refine gLoop_intro (fun m T G' => ∃ (k : Nat) (x : List Int) (A' : Option Addr) (c' : Nat) (Gb : GH), T 0 = .pointer q ∧ T 2 = .int .i64 own ∧ T 3 = .slice C fixed.length e ∧ T 10 = .slice A' x.length c' ∧ T 11 = .int .i64 k ∧ m + k = 1001 ∧ k ≤ 1001 ∧ Sub G Gb ∧ New Gb G' A' c' (x.map I64) 1 x.length ∧ VecOk N x ∧ restF (avStep N.edges own 2000000 fixed) 1001 0 xs = restF (avStep N.edges own 2000000 fixed) m k x)
    1001 ⟨0, xs, Ao, co, G, by simp (maxSteps := 300000) (disch := omega) only [gs, gs2, gs3, ↓reduceIte, Nat.reduceEqDiff, Nat.mul_one, Nat.add_zero, Nat.zero_add, Nat.zero_mul, Int.toNat_natCast, Int.reduceToNat, Nat.reduceMul, Nat.reduceAdd, decide_true, decide_false, Bool.not_true, Bool.not_false, true_and, and_true, List.map_cons, List.map_nil, List.nil_append, List.cons_append, List.append_nil, Option.map_some, Option.bind_some, List.getElem?_cons_zero, List.getElem?_cons_succ, Bool.false_eq_true, not_true_eq_false, not_false_eq_true, List.contains_cons, List.contains_nil, Nat.reduceBEq, Bool.true_or, Bool.false_or, Bool.or_true, List.set_cons_zero, List.set_cons_succ, List.length_cons, List.length_nil, isLd, Bool.true_and, Bool.false_and, Bool.and_true, Bool.and_false], by simp (maxSteps := 300000) (disch := omega) only [gs, gs2, gs3, ↓reduceIte, Nat.reduceEqDiff, Nat.mul_one, Nat.add_zero, Nat.zero_add, Nat.zero_mul, Int.toNat_natCast, Int.reduceToNat, Nat.reduceMul, Nat.reduceAdd, decide_true, decide_false, Bool.not_true, Bool.not_false, true_and, and_true, List.map_cons, List.map_nil, List.nil_append, List.cons_append, List.append_nil, Option.map_some, Option.bind_some, List.getElem?_cons_zero, List.getElem?_cons_succ, Bool.false_eq_true, not_true_eq_false, not_false_eq_true, List.contains_cons, List.contains_nil, Nat.reduceBEq, Bool.true_or, Bool.false_or, Bool.or_true, List.set_cons_zero, List.set_cons_succ, List.length_cons, List.length_nil, isLd, Bool.true_and, Bool.false_and, Bool.and_true, Bool.and_false], by simp (maxSteps := 300000) (disch := omega) only [gs, gs2, gs3, ↓reduceIte, Nat.reduceEqDiff, Nat.mul_one, Nat.add_zero, Nat.zero_add, Nat.zero_mul, Int.toNat_natCast, Int.reduceToNat, Nat.reduceMul, Nat.reduceAdd, decide_true, decide_false, Bool.not_true, Bool.not_false, true_and, and_true, List.map_cons, List.map_nil, List.nil_append, List.cons_append, List.append_nil, Option.map_some, Option.bind_some, List.getElem?_cons_zero, List.getElem?_cons_succ, Bool.false_eq_true, not_true_eq_false, not_false_eq_true, List.contains_cons, List.contains_nil, Nat.reduceBEq, Bool.true_or, Bool.false_or, Bool.or_true, List.set_cons_zero, List.set_cons_succ, List.length_cons, List.length_nil, isLd, Bool.true_and, Bool.false_and, Bool.and_true, Bool.and_false], by simp (maxSteps := 300000) (disch := omega) only [gs, gs2, gs3, ↓reduceIte, Nat.reduceEqDiff, Nat.mul_one, Nat.add_zero, Nat.zero_add, Nat.zero_mul, Int.toNat_natCast, Int.reduceToNat, Nat.reduceMul, Nat.reduceAdd, decide_true, decide_false, Bool.not_true, Bool.not_false, true_and, and_true, List.map_cons, List.map_nil, List.nil_append, List.cons_append, List.append_nil, Option.map_some, Option.bind_some, List.getElem?_cons_zero, List.getElem?_cons_succ, Bool.false_eq_true, not_true_eq_false, not_false_eq_true, List.contains_cons, List.contains_nil, Nat.reduceBEq, Bool.true_or, Bool.false_or, Bool.or_true, List.set_cons_zero, List.set_cons_succ, List.length_cons, List.length_nil, isLd, Bool.true_and, Bool.false_and, Bool.and_true, Bool.and_false], by simp (maxSteps := 300000) (disch := omega) only [gs, gs2, gs3, ↓reduceIte, Nat.reduceEqDiff, Nat.mul_one, Nat.add_zero, Nat.zero_add, Nat.zero_mul, Int.toNat_natCast, Int.reduceToNat, Nat.reduceMul, Nat.reduceAdd, decide_true, decide_false, Bool.not_true, Bool.not_false, true_and, and_true, List.map_cons, List.map_nil, List.nil_append, List.cons_append, List.append_nil, Option.map_some, Option.bind_some, List.getElem?_cons_zero, List.getElem?_cons_succ, Bool.false_eq_true, not_true_eq_false, not_false_eq_true, List.contains_cons, List.contains_nil, Nat.reduceBEq, Bool.true_or, Bool.false_or, Bool.or_true, List.set_cons_zero, List.set_cons_succ, List.length_cons, List.length_nil, isLd, Bool.true_and, Bool.false_and, Bool.and_true, Bool.and_false] <;> rfl, by omega, by omega, Sub.refl _, hO, hx, rfl⟩ ?_
  rintro m T G' ⟨k, x, A', c', Gb, e0, e2, e3, e10, e11, hm, hkm, s, hN0, hPx, he⟩
  have hx' := hN0.ints
  simp (maxSteps := 300000) (disch := omega) only [gs, gs2, gs3, ↓reduceIte, Nat.reduceEqDiff, Nat.mul_one, Nat.add_zero, Nat.zero_add, Nat.zero_mul, Int.toNat_natCast, Int.reduceToNat, Nat.reduceMul, Nat.reduceAdd, decide_true, decide_false, Bool.not_true, Bool.not_false, true_and, and_true, List.map_cons, List.map_nil, List.nil_append, List.cons_append, List.append_nil, Option.map_some, Option.bind_some, List.getElem?_cons_zero, List.getElem?_cons_succ, Bool.false_eq_true, not_true_eq_false, not_false_eq_true, List.contains_cons, List.contains_nil, Nat.reduceBEq, Bool.true_or, Bool.false_or, Bool.or_true, List.set_cons_zero, List.set_cons_succ, List.length_cons, List.length_nil, isLd, Bool.true_and, Bool.false_and, Bool.and_true, Bool.and_false, e0, e2, e3, e10, e11]
  by_cases hkk : (k : Int) ≤ 1000
  · simp (maxSteps := 300000) (disch := omega) only [gs, gs2, gs3, ↓reduceIte, Nat.reduceEqDiff, Nat.mul_one, Nat.add_zero, Nat.zero_add, Nat.zero_mul, Int.toNat_natCast, Int.reduceToNat, Nat.reduceMul, Nat.reduceAdd, decide_true, decide_false, Bool.not_true, Bool.not_false, true_and, and_true, List.map_cons, List.map_nil, List.nil_append, List.cons_append, List.append_nil, Option.map_some, Option.bind_some, List.getElem?_cons_zero, List.getElem?_cons_succ, Bool.false_eq_true, not_true_eq_false, not_false_eq_true, List.contains_cons, List.contains_nil, Nat.reduceBEq, Bool.true_or, Bool.false_or, Bool.or_true, List.set_cons_zero, List.set_cons_succ, List.length_cons, List.length_nil, isLd, Bool.true_and, Bool.false_and, Bool.and_true, Bool.and_false, hkk, e0, e2, e3, e10, e11]
    have sG := s.trans hN0.sub
    have hlx := hPx.1
    refine spec_l18Step_ok (h.sub sG) hx' (hg.sub sG) hl2 hn hPx ho fun G3 A3 c3 hN => ?_
    simp (maxSteps := 300000) (disch := omega) only [gs, gs2, gs3, ↓reduceIte, Nat.reduceEqDiff, Nat.mul_one, Nat.add_zero, Nat.zero_add, Nat.zero_mul, Int.toNat_natCast, Int.reduceToNat, Nat.reduceMul, Nat.reduceAdd, decide_true, decide_false, Bool.not_true, Bool.not_false, true_and, and_true, List.map_cons, List.map_nil, List.nil_append, List.cons_append, List.append_nil, Option.map_some, Option.bind_some, List.getElem?_cons_zero, List.getElem?_cons_succ, Bool.false_eq_true, not_true_eq_false, not_false_eq_true, List.contains_cons, List.contains_nil, Nat.reduceBEq, Bool.true_or, Bool.false_or, Bool.or_true, List.set_cons_zero, List.set_cons_succ, List.length_cons, List.length_nil, isLd, Bool.true_and, Bool.false_and, Bool.and_true, Bool.and_false, e0, e2, e3, e10, e11]
    have hlr : limR (-1) = 2000000 := rfl
    rw [hlr] at hN
    have hN' := hN.cast rfl (avStep_len N.edges own 2000000 fixed x).symm
    have hlm := avStep_len N.edges own 2000000 fixed x
    obtain ⟨m', rfl⟩ : ∃ m', m = m' + 1 := ⟨m - 1, by omega⟩
    rw [restF_succ (avStep N.edges own 2000000 fixed) m' k x] at he
    rw [show Value.slice A3 x.length c3 = .slice A3 (avStep N.edges own 2000000 fixed x).length c3 by rw [hlm]]
    refine spec_l00Same_ok hN'.ints (hx'.sub hN.sub) (by omega) ?_
    by_cases hq : avStep N.edges own 2000000 fixed x = x
    · simp (maxSteps := 300000) (disch := omega) only [gs, gs2, gs3, ↓reduceIte, Nat.reduceEqDiff, Nat.mul_one, Nat.add_zero, Nat.zero_add, Nat.zero_mul, Int.toNat_natCast, Int.reduceToNat, Nat.reduceMul, Nat.reduceAdd, decide_true, decide_false, Bool.not_true, Bool.not_false, true_and, and_true, List.map_cons, List.map_nil, List.nil_append, List.cons_append, List.append_nil, Option.map_some, Option.bind_some, List.getElem?_cons_zero, List.getElem?_cons_succ, Bool.false_eq_true, not_true_eq_false, not_false_eq_true, List.contains_cons, List.contains_nil, Nat.reduceBEq, Bool.true_or, Bool.false_or, Bool.or_true, List.set_cons_zero, List.set_cons_succ, List.length_cons, List.length_nil, isLd, Bool.true_and, Bool.false_and, Bool.and_true, Bool.and_false, eq_true hq, e0, e2, e3, e10, e11]
      rw [if_pos hq] at he
      rw [he] at hk
      obtain ⟨G4, s4, hN4⟩ := hN0.low s
      exact ⟨G4, s4.trans hN.sub, hk _ _ _ hN4⟩
    · rw [decide_eq_false hq]
      simp (maxSteps := 300000) (disch := omega) only [gs, gs2, gs3, ↓reduceIte, Nat.reduceEqDiff, Nat.mul_one, Nat.add_zero, Nat.zero_add, Nat.zero_mul, Int.toNat_natCast, Int.reduceToNat, Nat.reduceMul, Nat.reduceAdd, decide_true, decide_false, Bool.not_true, Bool.not_false, true_and, and_true, List.map_cons, List.map_nil, List.nil_append, List.cons_append, List.append_nil, Option.map_some, Option.bind_some, List.getElem?_cons_zero, List.getElem?_cons_succ, Bool.false_eq_true, not_true_eq_false, not_false_eq_true, List.contains_cons, List.contains_nil, Nat.reduceBEq, Bool.true_or, Bool.false_or, Bool.or_true, List.set_cons_zero, List.set_cons_succ, List.length_cons, List.length_nil, isLd, Bool.true_and, Bool.false_and, Bool.and_true, Bool.and_false, e0, e2, e3, e10, e11]
      rw [if_neg hq] at he
      exact ⟨m', by omega, G3, Sub.refl _, k + 1, avStep N.edges own 2000000 fixed x, A3, c3, G', rfl, rfl, by omega, by omega, sG, hN', avStep_ok hn hPx ho fixed, by rw [he]; rfl⟩
  · simp (maxSteps := 300000) (disch := omega) only [gs, gs2, gs3, ↓reduceIte, Nat.reduceEqDiff, Nat.mul_one, Nat.add_zero, Nat.zero_add, Nat.zero_mul, Int.toNat_natCast, Int.reduceToNat, Nat.reduceMul, Nat.reduceAdd, decide_true, decide_false, Bool.not_true, Bool.not_false, true_and, and_true, List.map_cons, List.map_nil, List.nil_append, List.cons_append, List.append_nil, Option.map_some, Option.bind_some, List.getElem?_cons_zero, List.getElem?_cons_succ, Bool.false_eq_true, not_true_eq_false, not_false_eq_true, List.contains_cons, List.contains_nil, Nat.reduceBEq, Bool.true_or, Bool.false_or, Bool.or_true, List.set_cons_zero, List.set_cons_succ, List.length_cons, List.length_nil, isLd, Bool.true_and, Bool.false_and, Bool.and_true, Bool.and_false, hkk, e0, e2, e3, e10, e11]
    obtain rfl : m = 0 := by omega
    have he' : restF (avStep N.edges own 2000000 fixed) 1001 0 xs = (-1, x) := he
    rw [he'] at hk
    obtain ⟨G4, s4, hN4⟩ := hN0.low s
    exact ⟨G4, s4, hk _ _ _ hN4⟩
/-- rising lists of some numbers from lo on, below n, in order. -/
def chs (n : Nat) : Nat → Nat → List (List Int)
  | 0, _ => [[]]
  | m + 1, lo => (List.range' lo (n - lo)).flatMap fun i => (chs n m (i + 1)).map fun t => (i : Int) :: t
def rng (lo m : Nat) : List Int := (List.range' lo m).map fun i : Nat => (i : Int)
theorem rng_succ (lo m : Nat) : rng lo (m + 1) = (lo : Int) :: rng (lo + 1) m := by simp [rng, List.range'_succ]
theorem rng_len (lo m : Nat) : (rng lo m).length = m := by simp [rng]
theorem chs_step {n lo : Nat} (m : Nat) (h : lo < n) : chs n (m + 1) lo = ((chs n m (lo + 1)).map fun t => (lo : Int) :: t) ++ chs n (m + 1) (lo + 1) := by
  obtain ⟨c, hc⟩ : ∃ c, n - lo = c + 1 := ⟨n - lo - 1, by omega⟩
  rw [chs, chs, hc, List.range'_succ, List.flatMap_cons, show n - (lo + 1) = c by omega]
theorem chs_end {n lo : Nat} (m : Nat) (h : n ≤ lo) : chs n (m + 1) lo = [] := by
  rw [chs, show n - lo = 0 by omega]; rfl
/-- the list that follows. -/
def nxt (n : Nat) : List Int → Option (List Int)
  | [] => none
  | a :: t => match nxt n t with
    | some t' => some (a :: t')
    | none => if a + 1 + (t.length + 1) ≤ (n : Int) then some (rng (a.toNat + 1) (t.length + 1)) else none
theorem nxt_none {n : Nat} : ∀ {t : List Int}, (∀ j, j < t.length → ¬ t.getD j 0 + 1 + (t.length - j) ≤ (n : Int)) → nxt n t = none
  | [], _ => rfl
  | a :: t, h => by
    have ih := nxt_none (n := n) (t := t) fun j hj => by
      have := h (j + 1) (by simp; omega)
      simp only [List.getD_cons_succ, List.length_cons] at this
      omega
    have h0 := h 0 (by simp)
    simp only [List.getD_cons_zero, List.length_cons] at h0
    simp only [nxt, ih]
    rw [if_neg (by omega)]
theorem nxt_some {n : Nat} : ∀ {t : List Int} {i : Nat}, i < t.length → t.getD i 0 + 1 + (t.length - i) ≤ (n : Int) → (∀ j, i < j → j < t.length → ¬ t.getD j 0 + 1 + (t.length - j) ≤ (n : Int)) → nxt n t = some (t.take i ++ rng ((t.getD i 0).toNat + 1) (t.length - i))
  | [], i, hi, _, _ => by simp at hi
  | a :: t, 0, hi, h1, h2 => by
    have e := nxt_none (n := n) (t := t) fun j hj => by
      have := h2 (j + 1) (by omega) (by simp; omega)
      simp only [List.getD_cons_succ, List.length_cons] at this
      omega
    simp only [List.getD_cons_zero, List.length_cons] at h1
    simp only [nxt, e]
    rw [if_pos (by omega)]; rfl
  | a :: t, i + 1, hi, h1, h2 => by
    simp only [List.getD_cons_succ, List.length_cons] at h1 hi
    have e := nxt_some (n := n) (t := t) (i := i) (by omega) (by omega) fun j hj hj2 => by
      have := h2 (j + 1) (by omega) (by simp; omega)
      simp only [List.getD_cons_succ, List.length_cons] at this
      omega
    simp only [nxt, e]
    simp [List.getD_cons_succ]
/-- each follows the one before; e follows the last. -/
def Ch (n : Nat) : List (List Int) → Option (List Int) → Prop
  | [], _ => True
  | [a], e => nxt n a = e
  | a :: b :: r, e => nxt n a = some b ∧ Ch n (b :: r) e
theorem Ch_app {n : Nat} {B : List (List Int)} {e e' : Option (List Int)} (hB : Ch n B e') (h0 : B = [] → e = e') (h1 : ∀ b r, B = b :: r → e = some b) : ∀ A, Ch n A e → Ch n (A ++ B) e'
  | [], _ => hB
  | [a], h => by
    cases B with
    | nil => have := h0 rfl; subst this; exact h
    | cons b r => exact ⟨by rw [← h1 b r rfl]; exact h, hB⟩
  | a :: b :: r, h => ⟨h.1, Ch_app hB h0 h1 (b :: r) h.2⟩
theorem Ch_map {n i m : Nat} : ∀ A, (∀ t ∈ A, t.length = m) → Ch n A none → Ch n (A.map fun t => (i : Int) :: t) (if (i : Int) + 1 + (m + 1) ≤ n then some (rng (i + 1) (m + 1)) else none)
  | [], _, _ => trivial
  | [a], hl, h => by
    have : nxt n a = none := h
    show nxt n ((i : Int) :: a) = _
    simp only [nxt, this, hl a (by simp), Int.toNat_natCast]
  | a :: b :: r, hl, h => ⟨by simp only [nxt, h.1], Ch_map (b :: r) (fun t ht => hl t (List.mem_cons_of_mem _ ht)) h.2⟩
theorem chs_len (n : Nat) : ∀ m lo, ∀ t ∈ chs n m lo, t.length = m
  | 0, _, t, h => by simp [chs] at h; simp [h]
  | m + 1, lo, t, h => by
    simp only [chs, List.mem_flatMap, List.mem_map] at h
    obtain ⟨i, _, t', h', rfl⟩ := h
    simp [chs_len n m (i + 1) t' h']
theorem chs_mem (n : Nat) : ∀ m lo, ∀ t ∈ chs n m lo, ∀ x ∈ t, (lo : Int) ≤ x ∧ x < n
  | 0, _, t, h, x, hx => by simp [chs] at h; subst h; simp at hx
  | m + 1, lo, t, h, x, hx => by
    simp only [chs, List.mem_flatMap, List.mem_map, List.mem_range'_1] at h
    obtain ⟨i, hi, t', h', rfl⟩ := h
    rcases List.mem_cons.1 hx with rfl | hx
    · omega
    · have := chs_mem n m (i + 1) t' h' x hx
      omega
theorem chs_main (n : Nat) : ∀ m c lo, n - lo = c → lo ≤ n → (lo + m ≤ n → ∃ r, chs n m lo = rng lo m :: r) ∧ (n < lo + m → 0 < m → chs n m lo = []) ∧ Ch n (chs n m lo) none
  | 0, _, lo, _, _ => ⟨fun _ => ⟨[], rfl⟩, fun _ h => by omega, rfl⟩
  | m + 1, 0, lo, hc, hlo => by
    rw [chs_end m (by omega)]
    exact ⟨fun _ => by omega, fun _ _ => rfl, trivial⟩
  | m + 1, c + 1, lo, hc, hlo => by
    obtain ⟨a1, a2, a3⟩ := chs_main n m c (lo + 1) (by omega) (by omega)
    obtain ⟨b1, b2, b3⟩ := chs_main n (m + 1) c (lo + 1) (by omega) (by omega)
    rw [chs_step m (by omega)]
    refine ⟨fun h => ?_, fun h _ => ?_, ?_⟩
    · obtain ⟨r, hr⟩ := a1 (by omega)
      rw [hr, rng_succ]
      exact ⟨_, rfl⟩
    · rw [b2 (by omega) (by omega)]
      by_cases hm : m = 0
      · omega
      · rw [a2 (by omega) (by omega)]; rfl
    · refine Ch_app b3 (fun hB => ?_) (fun b r hB => ?_) _ (Ch_map _ (chs_len n m (lo + 1)) a3)
      · by_cases h : (lo : Int) + 1 + (m + 1) ≤ n
        · obtain ⟨r, hr⟩ := b1 (by omega)
          rw [hr] at hB; cases hB
        · rw [if_neg h]
      · by_cases h : (lo : Int) + 1 + (m + 1) ≤ n
        · obtain ⟨r', hr⟩ := b1 (by omega)
          rw [hr] at hB; cases hB
          rw [if_pos h]
        · rw [b2 (by omega) (by omega)] at hB; cases hB
theorem chs_ch (n m : Nat) : Ch n (chs n m 0) none := (chs_main n m n 0 (by omega) (by omega)).2.2
theorem chs_head {n m : Nat} (h : m ≤ n) : ∃ r, chs n m 0 = rng 0 m :: r := (chs_main n m n 0 (by omega) (by omega)).1 (by omega)
/-- the list of all nodes is the only one of its length. -/
theorem chs_full (n : Nat) : ∀ m lo, lo + m = n → chs n m lo = [rng lo m]
  | 0, _, _ => rfl
  | m + 1, lo, h => by
    rw [chs_step m (by omega), chs_full n m (lo + 1) (by omega), (chs_main n (m + 1) _ (lo + 1) rfl (by omega)).2.1 (by omega) (by omega), rng_succ]; rfl
/-- a search with a budget: the first list that wins, the lists tried, and whether the budget ended. -/
def seek (W : List Int → Bool) (bud : Nat) : List (List Int) → Nat → Option (List Int) × Nat × Bool
  | [], k => (none, k, false)
  | s :: L, k => if k = bud then (none, k, true) else if W s = true then (some s, k + 1, false) else seek W bud L (k + 1)
theorem seek_cons (W : List Int → Bool) (bud : Nat) (s : List Int) (L : List (List Int)) (k : Nat) : seek W bud (s :: L) k = if k = bud then (none, k, true) else if W s = true then (some s, k + 1, false) else seek W bud L (k + 1) := rfl
theorem seek_le (W : List Int → Bool) (bud : Nat) : ∀ (L : List (List Int)) (k : Nat), k ≤ bud → (seek W bud L k).2.1 ≤ bud
  | [], k, h => h
  | s :: L, k, h => by
    rw [seek_cons]; split
    · exact h
    · split
      · show k + 1 ≤ bud; omega
      · exact seek_le W bud L (k + 1) (by omega)
theorem seek_none {W : List Int → Bool} {bud : Nat} {B : List (List Int)} {k' : Nat} : ∀ {A : List (List Int)} {k : Nat}, seek W bud A k = (none, k', false) → seek W bud (A ++ B) k = seek W bud B k'
  | [], k, h => by cases h; rfl
  | s :: L, k, h => by
    rw [seek_cons] at h
    rw [List.cons_append, seek_cons]
    split at h
    · cases h
    · rename_i h0
      split at h
      · cases h
      · rename_i h1
        rw [if_neg h0, if_neg h1]; exact seek_none h
theorem seek_stop {W : List Int → Bool} {bud : Nat} {B : List (List Int)} {k' : Nat} {o : Option (List Int)} {f : Bool} (hf : o ≠ none ∨ f = true) : ∀ {A : List (List Int)} {k : Nat}, seek W bud A k = (o, k', f) → seek W bud (A ++ B) k = (o, k', f)
  | [], k, h => by cases h; simp at hf
  | s :: L, k, h => by
    rw [seek_cons] at h
    rw [List.cons_append, seek_cons]
    split at h
    · rename_i h0; rw [if_pos h0]; exact h
    · rename_i h0
      rw [if_neg h0]
      split at h
      · rename_i h1; rw [if_pos h1]; exact h
      · rename_i h1; rw [if_neg h1]; exact seek_stop hf h
/-- a list that is found is one of those tried, and wins. -/
theorem seek_found {W : List Int → Bool} {bud : Nat} {s : List Int} {k' : Nat} {f : Bool} : ∀ {L : List (List Int)} {k : Nat}, seek W bud L k = (some s, k', f) → s ∈ L ∧ W s = true ∧ f = false
  | [], k, h => by cases h
  | t :: L, k, h => by
    rw [seek_cons] at h
    split at h
    · cases h
    · split at h
      · rename_i h1; cases h; exact ⟨List.mem_cons_self, h1, rfl⟩
      · have := seek_found h; exact ⟨List.mem_cons_of_mem _ this.1, this.2⟩
/-- nothing is found and the budget is left: no list wins. -/
theorem seek_all {W : List Int → Bool} {bud : Nat} {k' : Nat} : ∀ {L : List (List Int)} {k : Nat}, seek W bud L k = (none, k', false) → ∀ s ∈ L, W s = false
  | [], k, h, s, hs => by simp at hs
  | t :: L, k, h, s, hs => by
    rw [seek_cons] at h
    split at h
    · cases h
    · split at h
      · cases h
      · rename_i h1
        rcases List.mem_cons.1 hs with rfl | hs
        · simpa using h1
        · exact seek_all h s hs
/-- all lists from some size on. -/
def allFrom (n m : Nat) : List (List Int) := (List.range' m (n + 1 - m)).flatMap fun j => chs n j 0
theorem allFrom_step {n m : Nat} (h : m ≤ n) : allFrom n m = chs n m 0 ++ allFrom n (m + 1) := by
  unfold allFrom
  rw [show n + 1 - m = (n + 1 - (m + 1)) + 1 by omega, List.range'_succ, List.flatMap_cons]
theorem allFrom_end {n m : Nat} (h : n < m) : allFrom n m = [] := by
  unfold allFrom; rw [show n + 1 - m = 0 by omega]; rfl
/-- some places of a list get a value. -/
def setAll (value : Int) (s xs : List Int) : List Int := s.foldl (fun x i => x.set i.toNat value) xs
theorem setAll_snoc (value : Int) (s xs : List Int) (i : Int) : setAll value (s ++ [i]) xs = (setAll value s xs).set i.toNat value := by simp [setAll]
theorem setAll_len (value : Int) : ∀ (s xs : List Int), (setAll value s xs).length = xs.length
  | [], _ => rfl
  | i :: s, xs => by
    have := setAll_len value s (xs.set i.toNat value)
    simpa [setAll] using this
theorem setAll_ok {N : Gra} {value : Int} (hv : -1000000 ≤ value ∧ value ≤ 1000000) : ∀ (s xs : List Int), VecOk N xs → VecOk N (setAll value s xs)
  | [], _, h => h
  | i :: s, xs, h => setAll_ok hv s (xs.set i.toNat value) ⟨by rw [List.length_set]; exact h.1, inB_mem.2 fun x hx => by
    rcases List.mem_or_eq_of_mem_set hx with h' | h'
    · exact inB_mem.1 h.2 x h'
    · subst h'; exact hv⟩
theorem setAll_get (value : Int) (j : Nat) : ∀ (s xs : List Int), (∀ x ∈ s, 0 ≤ x) → j < xs.length → (setAll value s xs).getD j 0 = if (j : Int) ∈ s then value else xs.getD j 0
  | [], xs, _, _ => by simp [setAll]
  | i :: s, xs, h, hj => by
    have hi := h i (by simp)
    have ih := setAll_get value j s (xs.set i.toNat value) (fun x hx => h x (List.mem_cons_of_mem _ hx)) (by simpa using hj)
    have e : setAll value (i :: s) xs = setAll value s (xs.set i.toNat value) := rfl
    rw [e, ih]
    by_cases h1 : (j : Int) ∈ s
    · rw [if_pos h1, if_pos (List.mem_cons_of_mem _ h1)]
    · rw [if_neg h1]
      by_cases h2 : (j : Int) = i
      · rw [if_pos (by rw [h2]; exact List.mem_cons_self)]
        have : i.toNat = j := by omega
        subst this
        simp [List.getD, hj]
      · rw [if_neg (by simp [h1, h2])]
        have : i.toNat ≠ j := by omega
        simp [List.getD, List.getElem?_set, this]
/-- a set leads all to a value. -/
noncomputable def leadB (N : Gra) (own value : Int) (xs s : List Int) : Bool := decide (0 ≤ (restF (avStep N.edges own 2000000 s) 1001 0 (setAll value s xs)).1) && (restF (avStep N.edges own 2000000 s) 1001 0 (setAll value s xs)).2.all (· == value)
theorem ext_getD {a b : List Int} (hl : a.length = b.length) (h : ∀ i, i < a.length → a.getD i 0 = b.getD i 0) : a = b := by
  apply List.ext_getElem hl
  intro i h1 h2
  have := h i h1
  simpa [List.getD, h1, h2] using this
theorem rng_mem (n : Nat) (x : Int) : x ∈ rng 0 n ↔ 0 ≤ x ∧ x < n := by
  simp only [rng, List.mem_map, List.mem_range'_1]
  constructor
  · rintro ⟨a, h, rfl⟩; omega
  · intro h; exact ⟨x.toNat, by omega, by omega⟩
/-- all nodes together lead to the value. -/
theorem lead_full (N : Gra) (own value : Int) (xs : List Int) : leadB N own value xs (rng 0 xs.length) = true := by
  have hl := setAll_len value (rng 0 xs.length) xs
  have hst : avStep N.edges own 2000000 (rng 0 xs.length) (setAll value (rng 0 xs.length) xs) = setAll value (rng 0 xs.length) xs := by
    refine ext_getD (avStep_len _ _ _ _ _) fun i hi => ?_
    rw [avStep_len] at hi
    rw [avStep_get _ _ _ _ _ _ hi]
    unfold avF
    rw [if_neg (by rw [rng_mem]; omega)]
    unfold xg; rw [Int.toNat_natCast]
  have hr : restF (avStep N.edges own 2000000 (rng 0 xs.length)) 1001 0 (setAll value (rng 0 xs.length) xs) = (0, setAll value (rng 0 xs.length) xs) := by
    rw [restF_succ, if_pos hst]
  unfold leadB
  rw [hr]
  simp only [Int.le_refl, decide_true, Bool.true_and, List.all_eq_true, beq_iff_eq]
  intro x hx
  obtain ⟨i, hi, rfl⟩ := List.mem_iff_getElem.1 hx
  have := setAll_get value i (rng 0 xs.length) xs (fun x hx => ((rng_mem _ _).1 hx).1) (by omega)
  rw [if_pos ((rng_mem _ _).2 (by omega))] at this
  simpa [List.getD, hi] using this
theorem New.boxed {G G' : GH} {A : Option Addr} {c sz n b : Nat} {cs : List Value} (h : New G G' A c cs sz n) (hb : G' b = none) (e : Ent) : New (put G b e) (put G' b e) A c cs sz n := by
  rcases h with ⟨h1, h2, h3, h4, rfl⟩ | ⟨b', r, h1, h2, rfl, h3⟩
  · exact .inl ⟨h1, h2, h3, h4, rfl⟩
  · have q := put_none.1 hb
    exact .inr ⟨b', r, h1, by rw [put_ne _ _ q.1.symm]; exact h2, by rw [put_comm _ _ _ q.1.symm], h3⟩
/-- a box under the ground is forgotten. -/
theorem New.unbox {G Gc : GH} {b1 bF : Nat} {e1 e : Ent} {A : Option Addr} {c sz n : Nat} {cs : List Value} (hb : G b1 = none) (hF : G bF = none) (h : New (put (put G b1 e1) bF e) Gc A c cs sz n) (hne : bF ≠ b1) :
    ∃ G'', Sub G'' Gc ∧ New (put G bF e) G'' A c cs sz n := by
  rcases h with ⟨h1, h2, h3, h4, rfl⟩ | ⟨b, r, h1, h2, rfl, h3⟩
  · exact ⟨_, Sub.both (Sub.put hb _), .inl ⟨h1, h2, h3, h4, rfl⟩⟩
  · have n1 : b ≠ bF := fun x => by rw [x, put_same] at h2; cases h2
    have n2 : b ≠ b1 := fun x => by rw [put_ne _ _ n1, x, put_same] at h2; cases h2
    exact ⟨_, Sub.both (Sub.both (Sub.put hb _)), .inr ⟨b, r, h1, by rw [put_ne _ _ n1] at h2 ⊢; rwa [put_ne _ _ n2] at h2, rfl, h3⟩⟩
/-- what can still be sent. -/
def left (es : List T3) (t : Int) (fl : List Int) : Nat := (24000000 - exc es fl t es.length).toNat
/-- one cell of one's own block is written: all else stays. -/
def Keep (b : Nat) (G G' : GH) : Prop := ∀ x, x ≠ b → G' x = G x
theorem sub_keep {b : Nat} {G G' H : GH} (h : Keep b G G') (hb : H b = none) (s : Sub H G) : Sub H G' := fun x e hx => by
  have : x ≠ b := fun e' => by rw [e', hb] at hx; cases hx
  rw [h x this]; exact s x e hx
theorem st_src {G : GH} {b o : Nat} {cs : List Value} {v : Value} {K : Value → GH → Prop} (h : G b = some ⟨cs, true⟩) (h1 : oneB v = true) (ho : o < cs.length) (hk : ∀ G', Keep b G G' → G' b = some ⟨cs.set o v, true⟩ → K undef G') : gSt 1 (.pointer (some ⟨b, o, none⟩)) v G K :=
  st_one h ho h1 (hk _ (fun y hy => put_ne _ _ hy) (put_same _ _ _))
theorem T3S.cells {G : GH} {A : Option Addr} {c : Nat} {es : List T3} (h : T3S G A c es) : Cells G A (flat3 es) := fun i v hv => by
  have hl : i < (flat3 es).length := by
    rcases Nat.lt_or_ge i (flat3 es).length with h | h
    · exact h
    · rw [List.getElem?_eq_none h] at hv; cases hv
  rw [flat3_len] at hl
  have hi : i / 3 < es.length := by omega
  obtain ⟨g0, g1, g2⟩ := flat3_get es (i / 3) hi
  have h3 : i % 3 = 0 ∨ i % 3 = 1 ∨ i % 3 = 2 := by omega
  rcases h3 with h3 | h3 | h3
  · rw [show i = i / 3 * 3 by omega] at hv ⊢
    rw [g0] at hv; cases hv
    exact h.r0 _ hi
  · have e : i = i / 3 * 3 + 1 := by omega
    rw [e] at hv ⊢
    rw [g1] at hv; cases hv
    exact h.r1 _ hi
  · have e : i = i / 3 * 3 + 2 := by omega
    rw [e] at hv ⊢
    rw [g2] at hv; cases hv
    exact h.r2 _ hi
/-- the heap without the block of a list. -/
def wo (G : GH) (A : Option Addr) : GH := fun x => if A.map (·.block) = some x then none else G x
theorem Sub.wo (G : GH) (A : Option Addr) : Sub (Gh.wo G A) G := fun x e h => by
  unfold Gh.wo at h; split at h
  · cases h
  · exact h
theorem Off.wo (G : GH) (A : Option Addr) : Off (Gh.wo G A) A := fun a ha => by unfold Gh.wo; rw [if_pos (by rw [ha]; rfl)]
theorem wo_ne {G : GH} {A : Option Addr} {x : Nat} (h : ∀ a, A = some a → a.block ≠ x) : wo G A x = G x := by
  unfold wo; rw [if_neg]
  cases A with
  | none => simp
  | some a => simp; exact h a rfl
/-- the last cell of a list of one's own is left out. -/
theorem Own.pop {G : GH} {A : Option Addr} {c n : Nat} {cs : List Value} {v : Value} (h : Own G A c (cs ++ [v]) 1 (n + 1)) (hn : cs.length = n) : Own G A c cs 1 n := by
  rcases h with ⟨_, _, h0, _⟩ | ⟨b, r, h1, h2, h3, h4, h5⟩
  · omega
  · exact .inr ⟨b, v :: r, h1, by rw [h2]; simp, by omega, by simpa using h4, by omega⟩
/-- the cells of the search. -/
def ssC (q B : Option Addr) (L d : Nat) (own value : Int) (m : Nat) (A : Option Addr) (l c : Nat) (k bud : Nat) (full : Bool) : List Value :=
  [.pointer q, .slice B L d, .int .i64 own, .int .i64 value, .int .i64 m, .slice A l c, .int .i64 k, .int .i64 bud, .bool full]
structure SS (H G : GH) (b : Nat) (q B : Option Addr) (L d : Nat) (own value : Int) (m bud : Nat) (A : Option Addr) (c : Nat) (p : List Int) (k : Nat) (full : Bool) : Prop where
  sub : Sub H G
  nb : H b = none
  blk : G b = some ⟨ssC q B L d own value m A p.length c k bud full, true⟩
  own : Own G A c (p.map I64) 1 p.length
  off : Off H A
  da : ∀ a, A = some a → a.block ≠ b
theorem SS.r0 {H G : GH} {b : Nat} {q B : Option Addr} {L d : Nat} {own value : Int} {m bud : Nat} {A : Option Addr} {c : Nat} {p : List Int} {k : Nat} {full : Bool} (h : SS H G b q B L d own value m bud A c p k full) : rd G (some ⟨b, 0, none⟩) = some (.pointer q) := by simp only [rd, h.blk]; rfl
theorem SS.r1 {H G : GH} {b : Nat} {q B : Option Addr} {L d : Nat} {own value : Int} {m bud : Nat} {A : Option Addr} {c : Nat} {p : List Int} {k : Nat} {full : Bool} (h : SS H G b q B L d own value m bud A c p k full) : rd G (some ⟨b, 1, none⟩) = some (.slice B L d) := by simp only [rd, h.blk]; rfl
theorem SS.r2 {H G : GH} {b : Nat} {q B : Option Addr} {L d : Nat} {own value : Int} {m bud : Nat} {A : Option Addr} {c : Nat} {p : List Int} {k : Nat} {full : Bool} (h : SS H G b q B L d own value m bud A c p k full) : rd G (some ⟨b, 2, none⟩) = some (.int .i64 own) := by simp only [rd, h.blk]; rfl
theorem SS.r3 {H G : GH} {b : Nat} {q B : Option Addr} {L d : Nat} {own value : Int} {m bud : Nat} {A : Option Addr} {c : Nat} {p : List Int} {k : Nat} {full : Bool} (h : SS H G b q B L d own value m bud A c p k full) : rd G (some ⟨b, 3, none⟩) = some (.int .i64 value) := by simp only [rd, h.blk]; rfl
theorem SS.r4 {H G : GH} {b : Nat} {q B : Option Addr} {L d : Nat} {own value : Int} {m bud : Nat} {A : Option Addr} {c : Nat} {p : List Int} {k : Nat} {full : Bool} (h : SS H G b q B L d own value m bud A c p k full) : rd G (some ⟨b, 4, none⟩) = some (.int .i64 m) := by simp only [rd, h.blk]; rfl
theorem SS.r5 {H G : GH} {b : Nat} {q B : Option Addr} {L d : Nat} {own value : Int} {m bud : Nat} {A : Option Addr} {c : Nat} {p : List Int} {k : Nat} {full : Bool} (h : SS H G b q B L d own value m bud A c p k full) : rd G (some ⟨b, 5, none⟩) = some (.slice A p.length c) := by simp only [rd, h.blk]; rfl
theorem SS.r6 {H G : GH} {b : Nat} {q B : Option Addr} {L d : Nat} {own value : Int} {m bud : Nat} {A : Option Addr} {c : Nat} {p : List Int} {k : Nat} {full : Bool} (h : SS H G b q B L d own value m bud A c p k full) : rd G (some ⟨b, 6, none⟩) = some (.int .i64 k) := by simp only [rd, h.blk]; rfl
theorem SS.r7 {H G : GH} {b : Nat} {q B : Option Addr} {L d : Nat} {own value : Int} {m bud : Nat} {A : Option Addr} {c : Nat} {p : List Int} {k : Nat} {full : Bool} (h : SS H G b q B L d own value m bud A c p k full) : rd G (some ⟨b, 7, none⟩) = some (.int .i64 bud) := by simp only [rd, h.blk]; rfl
theorem SS.r8 {H G : GH} {b : Nat} {q B : Option Addr} {L d : Nat} {own value : Int} {m bud : Nat} {A : Option Addr} {c : Nat} {p : List Int} {k : Nat} {full : Bool} (h : SS H G b q B L d own value m bud A c p k full) : rd G (some ⟨b, 8, none⟩) = some (.bool full) := by simp only [rd, h.blk]; rfl
/-- one cell of the state is written. -/
theorem SS.st {H G : GH} {b : Nat} {q B : Option Addr} {L d : Nat} {own value : Int} {m bud : Nat} {A : Option Addr} {c : Nat} {p : List Int} {k : Nat} {full : Bool} (h : SS H G b q B L d own value m bud A c p k full) {o : Nat} {v : Value} {m' k' : Nat} {full' : Bool} (ho : o < 9) (hv : oneB v = true)
    (he : (ssC q B L d own value m A p.length c k bud full).set o v = ssC q B L d own value m' A p.length c k' bud full') {K : Value → GH → Prop}
    (hk : ∀ G', SS H G' b q B L d own value m' bud A c p k' full' → K undef G') : gSt 1 (.pointer (some ⟨b, o, none⟩)) v G K := by
  refine st_src h.blk hv (by simpa [ssC] using ho) fun G' hK hb => hk G' ?_
  exact ⟨sub_keep hK h.nb h.sub, h.nb, by rw [hb, he], by
    rcases h.own with h1 | ⟨x, r, h1, h2, h3⟩
    · exact .inl h1
    · exact .inr ⟨x, r, h1, by rw [hK x (h.da _ h1)]; exact h2, h3⟩, h.off, h.da⟩
/-- a number joins the set: the append, then the write of the slice. -/
theorem SS.push {H G : GH} {b : Nat} {q B : Option Addr} {L d : Nat} {own value : Int} {m bud : Nat} {A : Option Addr} {c : Nat} {p : List Int} {k : Nat} {full : Bool} (h : SS H G b q B L d own value m bud A c p k full) {x : Int} (hl : p.length < 2 ^ 20) {K : Value → GH → Prop} {Bn : Option Addr} {dn : Nat} (hn : Cells G Bn [.int .i64 x])
    (hk : ∀ G' A' c', rd G' (some ⟨b, 0, none⟩) = some (.pointer q) → (∀ K' : Value → GH → Prop, (∀ G'', SS H G'' b q B L d own value m bud A' c' (p ++ [x]) k full → K' undef G'') → gSt 1 (.pointer (some ⟨b, 5, none⟩)) (.slice A' (p.length + 1) c') G' K') → K (.slice A' (p.length + 1) c') G') :
    gAp 1 8 [.int .i64 0] (.slice A p.length c) (.slice Bn 1 dn) G K := by
  refine ap_own h.own hn rfl (by intro v hv; simp at hv; subst hv; rfl) rfl (by omega) (by omega) (by omega) fun G' A' c' hO keep => ?_
  obtain ⟨hs, hf⟩ := keep _ (Sub.wo _ _) (Off.wo _ _)
  have hw : wo G A b = some ⟨ssC q B L d own value m A p.length c k bud full, true⟩ := by rw [wo_ne h.da]; exact h.blk
  have s0 : Sub H (wo G A) := fun x e hx => by
    rw [wo_ne fun a ha e' => by have := h.off a ha; rw [e', hx] at this; cases this]
    exact h.sub _ _ hx
  have hb' := hs _ _ hw
  have da' : ∀ a, A' = some a → a.block ≠ b := fun a ha e => by have := hf a ha; rw [e, hw] at this; cases this
  refine hk G' A' c' (by simp only [rd, hb']; rfl) fun K' hK' => ?_
  refine st_src hb' rfl (by simp [ssC]) fun G'' hKp hb2 => hK' G'' ?_
  exact ⟨sub_keep hKp h.nb (s0.trans hs), h.nb, by rw [hb2]; simp [ssC], by
    have hO' : Own G' A' c' ((p ++ [x]).map I64) 1 (p ++ [x]).length := hO.cast (by simp [I64]) (by simp)
    rcases hO' with h1 | ⟨y, r, h1, h2, h3⟩
    · exact .inl h1
    · exact .inr ⟨y, r, h1, by rw [hKp y (da' _ h1)]; exact h2, h3⟩, hf.mono s0, da'⟩
/-- the last number leaves the set. -/
theorem SS.popped {H G : GH} {b : Nat} {q B : Option Addr} {L d : Nat} {own value : Int} {m bud : Nat} {A : Option Addr} {c : Nat} {p : List Int} {k : Nat} {full : Bool} {x : Int} (h : SS H G b q B L d own value m bud A c (p ++ [x]) k full) {K : Value → GH → Prop} (hk : ∀ G', SS H G' b q B L d own value m bud A c p k full → K undef G') : gSt 1 (.pointer (some ⟨b, 5, none⟩)) (.slice A p.length c) G K := by
  refine st_src h.blk rfl (by simp [ssC]) fun G' hK hb => hk G' ?_
  exact ⟨sub_keep hK h.nb h.sub, h.nb, by rw [hb]; simp [ssC], by
    have hO : Own G A c (p.map I64) 1 p.length := Own.pop (v := I64 x) (h.own.cast (by simp) (by simp)) (by simp)
    rcases hO with h1 | ⟨y, r, h1, h2, h3⟩
    · exact .inl h1
    · exact .inr ⟨y, r, h1, by rw [hK y (h.da _ h1)]; exact h2, h3⟩, h.off, h.da⟩
theorem impl_isBudget_ok (a : Int) {G : GH} {K : Value → GH → Prop} (hk : K (.bool (decide (1 ≤ a ∧ a ≤ 20000))) G) : GC Try.prog 127 [.int .i64 a] G K := by
  refine c_impl_isBudget_i (by simp) ?_
  simp (maxSteps := 300000) (disch := omega) only [gs, gs2, gs3, ↓reduceIte, Nat.reduceEqDiff, Nat.mul_one, Nat.add_zero, Nat.zero_add, Nat.zero_mul, Int.toNat_natCast, Int.reduceToNat, Nat.reduceMul, Nat.reduceAdd, decide_true, decide_false, Bool.not_true, Bool.not_false, true_and, and_true, List.map_cons, List.map_nil, List.nil_append, List.cons_append, List.append_nil, Option.map_some, Option.bind_some, List.getElem?_cons_zero, List.getElem?_cons_succ, Bool.false_eq_true, not_true_eq_false, not_false_eq_true, List.contains_cons, List.contains_nil, Nat.reduceBEq, Bool.true_or, Bool.false_or, Bool.or_true, List.set_cons_zero, List.set_cons_succ, List.length_cons, List.length_nil, isLd, Bool.true_and, Bool.false_and, Bool.and_true, Bool.and_false]
  refine impl_within_ok _ _ _ ?_
  simp (maxSteps := 300000) (disch := omega) only [gs, gs2, gs3, ↓reduceIte, Nat.reduceEqDiff, Nat.mul_one, Nat.add_zero, Nat.zero_add, Nat.zero_mul, Int.toNat_natCast, Int.reduceToNat, Nat.reduceMul, Nat.reduceAdd, decide_true, decide_false, Bool.not_true, Bool.not_false, true_and, and_true, List.map_cons, List.map_nil, List.nil_append, List.cons_append, List.append_nil, Option.map_some, Option.bind_some, List.getElem?_cons_zero, List.getElem?_cons_succ, Bool.false_eq_true, not_true_eq_false, not_false_eq_true, List.contains_cons, List.contains_nil, Nat.reduceBEq, Bool.true_or, Bool.false_or, Bool.or_true, List.set_cons_zero, List.set_cons_succ, List.length_cons, List.length_nil, isLd, Bool.true_and, Bool.false_and, Bool.and_true, Bool.and_false]
  exact hk
theorem impl_node_ok {G : GH} {b : Nat} {l : Int} {s : Bool} (hb : G b = some ⟨[.int .i64 l, .bool s], true⟩) (hl : 0 ≤ l ∧ l ≤ 20000) {K : Value → GH → Prop}
    (h0 : l = 0 → ∀ G', Keep b G G' → K (.bool false) G') (h1 : l ≠ 0 → ∀ G', Keep b G G' → G' b = some ⟨[.int .i64 (l - 1), .bool s], true⟩ → K (.bool true) G') : GC Try.prog 129 [.pointer (some ⟨b, 0, none⟩)] G K := by
  refine c_impl_counter_node_i (by simp) ?_
  have r0 : rd G (some ⟨b, 0, none⟩) = some (.int .i64 l) := by simp only [rd, hb]; rfl
  simp (maxSteps := 300000) (disch := omega) only [gs, gs2, gs3, ↓reduceIte, Nat.reduceEqDiff, Nat.mul_one, Nat.add_zero, Nat.zero_add, Nat.zero_mul, Int.toNat_natCast, Int.reduceToNat, Nat.reduceMul, Nat.reduceAdd, decide_true, decide_false, Bool.not_true, Bool.not_false, true_and, and_true, List.map_cons, List.map_nil, List.nil_append, List.cons_append, List.append_nil, Option.map_some, Option.bind_some, List.getElem?_cons_zero, List.getElem?_cons_succ, Bool.false_eq_true, not_true_eq_false, not_false_eq_true, List.contains_cons, List.contains_nil, Nat.reduceBEq, Bool.true_or, Bool.false_or, Bool.or_true, List.set_cons_zero, List.set_cons_succ, List.length_cons, List.length_nil, isLd, Bool.true_and, Bool.false_and, Bool.and_true, Bool.and_false, r0]
  by_cases g : l = 0
  · simp (maxSteps := 300000) (disch := omega) only [gs, gs2, gs3, ↓reduceIte, Nat.reduceEqDiff, Nat.mul_one, Nat.add_zero, Nat.zero_add, Nat.zero_mul, Int.toNat_natCast, Int.reduceToNat, Nat.reduceMul, Nat.reduceAdd, decide_true, decide_false, Bool.not_true, Bool.not_false, true_and, and_true, List.map_cons, List.map_nil, List.nil_append, List.cons_append, List.append_nil, Option.map_some, Option.bind_some, List.getElem?_cons_zero, List.getElem?_cons_succ, Bool.false_eq_true, not_true_eq_false, not_false_eq_true, List.contains_cons, List.contains_nil, Nat.reduceBEq, Bool.true_or, Bool.false_or, Bool.or_true, List.set_cons_zero, List.set_cons_succ, List.length_cons, List.length_nil, isLd, Bool.true_and, Bool.false_and, Bool.and_true, Bool.and_false, r0, eq_true g]
    refine st_src hb rfl (by simp) fun G' hK hb' => ?_
    simp (maxSteps := 300000) (disch := omega) only [gs, gs2, gs3, ↓reduceIte, Nat.reduceEqDiff, Nat.mul_one, Nat.add_zero, Nat.zero_add, Nat.zero_mul, Int.toNat_natCast, Int.reduceToNat, Nat.reduceMul, Nat.reduceAdd, decide_true, decide_false, Bool.not_true, Bool.not_false, true_and, and_true, List.map_cons, List.map_nil, List.nil_append, List.cons_append, List.append_nil, Option.map_some, Option.bind_some, List.getElem?_cons_zero, List.getElem?_cons_succ, Bool.false_eq_true, not_true_eq_false, not_false_eq_true, List.contains_cons, List.contains_nil, Nat.reduceBEq, Bool.true_or, Bool.false_or, Bool.or_true, List.set_cons_zero, List.set_cons_succ, List.length_cons, List.length_nil, isLd, Bool.true_and, Bool.false_and, Bool.and_true, Bool.and_false]
    exact h0 g G' hK
  · simp (maxSteps := 300000) (disch := omega) only [gs, gs2, gs3, ↓reduceIte, Nat.reduceEqDiff, Nat.mul_one, Nat.add_zero, Nat.zero_add, Nat.zero_mul, Int.toNat_natCast, Int.reduceToNat, Nat.reduceMul, Nat.reduceAdd, decide_true, decide_false, Bool.not_true, Bool.not_false, true_and, and_true, List.map_cons, List.map_nil, List.nil_append, List.cons_append, List.append_nil, Option.map_some, Option.bind_some, List.getElem?_cons_zero, List.getElem?_cons_succ, Bool.false_eq_true, not_true_eq_false, not_false_eq_true, List.contains_cons, List.contains_nil, Nat.reduceBEq, Bool.true_or, Bool.false_or, Bool.or_true, List.set_cons_zero, List.set_cons_succ, List.length_cons, List.length_nil, isLd, Bool.true_and, Bool.false_and, Bool.and_true, Bool.and_false, r0, eq_false g]
    refine st_src hb rfl (by simp) fun G' hK hb' => ?_
    simp (maxSteps := 300000) (disch := omega) only [gs, gs2, gs3, ↓reduceIte, Nat.reduceEqDiff, Nat.mul_one, Nat.add_zero, Nat.zero_add, Nat.zero_mul, Int.toNat_natCast, Int.reduceToNat, Nat.reduceMul, Nat.reduceAdd, decide_true, decide_false, Bool.not_true, Bool.not_false, true_and, and_true, List.map_cons, List.map_nil, List.nil_append, List.cons_append, List.append_nil, Option.map_some, Option.bind_some, List.getElem?_cons_zero, List.getElem?_cons_succ, Bool.false_eq_true, not_true_eq_false, not_false_eq_true, List.contains_cons, List.contains_nil, Nat.reduceBEq, Bool.true_or, Bool.false_or, Bool.or_true, List.set_cons_zero, List.set_cons_succ, List.length_cons, List.length_nil, isLd, Bool.true_and, Bool.false_and, Bool.and_true, Bool.and_false]
    exact h1 g G' hK (by rw [hb']; rfl)
/-- the list that nextChoice writes, after some cells. -/
def nxW (xs : List Int) (i k : Nat) : List Int := (List.range xs.length).map fun j => if i ≤ j ∧ j < k then xs.getD i 0 + 1 + (j - i : Nat) else xs.getD j 0
theorem nxW_len (xs : List Int) (i k : Nat) : (nxW xs i k).length = xs.length := by simp [nxW]
theorem nxW_get {xs : List Int} {i k j : Nat} (hj : j < xs.length) : (nxW xs i k).getD j 0 = if i ≤ j ∧ j < k then xs.getD i 0 + 1 + (j - i : Nat) else xs.getD j 0 := by simp [nxW, List.getD, hj]
theorem nxW_start (xs : List Int) (i : Nat) : nxW xs i i = xs := by
  refine ext_getD (nxW_len _ _ _) fun j hj => ?_
  rw [nxW_len] at hj
  rw [nxW_get hj, if_neg (by omega)]
theorem nxW_set {xs : List Int} {i k : Nat} (hik : i ≤ k) (hk : k < xs.length) : (nxW xs i k).set k (xs.getD i 0 + 1 + k - i) = nxW xs i (k + 1) := by
  refine ext_getD (by simp [nxW]) fun j hj => ?_
  rw [List.length_set, nxW_len] at hj
  rw [nxW_get hj]
  by_cases e : k = j
  · subst e
    rw [if_pos ⟨hik, by omega⟩]
    simp [List.getD, nxW_len, hk]
    omega
  · have e2 : ((nxW xs i k).set k (xs.getD i 0 + 1 + k - i)).getD j 0 = (nxW xs i k).getD j 0 := by simp [List.getD, List.getElem?_set, e]
    rw [e2, nxW_get hj]
    by_cases c : i ≤ j ∧ j < k
    · rw [if_pos c, if_pos ⟨c.1, by omega⟩]
    · rw [if_neg c, if_neg (by omega)]
theorem nxW_end {xs : List Int} {i : Nat} (hi : i < xs.length) (h0 : 0 ≤ xs.getD i 0) : nxW xs i xs.length = xs.take i ++ rng ((xs.getD i 0).toNat + 1) (xs.length - i) := by
  refine ext_getD (by rw [nxW_len, List.length_append, List.length_take, rng_len]; omega) fun j hj => ?_
  rw [nxW_len] at hj
  rw [nxW_get hj]
  by_cases c : j < i
  · rw [if_neg (by omega)]
    simp only [List.getD]
    rw [List.getElem?_append_left (by rw [List.length_take]; omega), List.getElem?_take_of_lt c]
  · rw [if_pos (by omega)]
    simp only [List.getD]
    rw [List.getElem?_append_right (by rw [List.length_take]; omega), List.length_take]
    simp only [rng, List.getElem?_map]
    rw [List.getElem?_range' (by omega)]
    simp only [List.getD] at h0
    simp
    omega
theorem impl_nextChoice_ok {G : GH} {A : Option Addr} {c : Nat} {xs : List Int} {n : Int} (h : IntS G A c xs) (hb : ∀ j, j < xs.length → 0 ≤ xs.getD j 0 ∧ xs.getD j 0 < n) (hn : 0 ≤ n ∧ n < 2 ^ 20) (hl : xs.length < 2 ^ 20) {K : Value → GH → Prop}
    (h0 : nxt n.toNat xs = none → K (.tuple [.slice none 0 0, .bool false].toArray) G)
    (h1 : ∀ ys, nxt n.toNat xs = some ys → ys.length = xs.length → ∀ G' A' c', New G G' A' c' (ys.map I64) 1 xs.length → K (.tuple [.slice A' xs.length c', .bool true].toArray) G') :
    GC Try.prog 131 [.slice A xs.length c, .int .i64 n] G K := by
  refine c_impl_nextChoice_i (by simp) ?_
  have hrd := h.rd
  have hsn := h.sn
  simp (maxSteps := 300000) (disch := omega) only [gs, gs2, gs3, ↓reduceIte, Nat.reduceEqDiff, Nat.mul_one, Nat.add_zero, Nat.zero_add, Nat.zero_mul, Int.toNat_natCast, Int.reduceToNat, Nat.reduceMul, Nat.reduceAdd, decide_true, decide_false, Bool.not_true, Bool.not_false, true_and, and_true, List.map_cons, List.map_nil, List.nil_append, List.cons_append, List.append_nil, Option.map_some, Option.bind_some, List.getElem?_cons_zero, List.getElem?_cons_succ, Bool.false_eq_true, not_true_eq_false, not_false_eq_true, List.contains_cons, List.contains_nil, Nat.reduceBEq, Bool.true_or, Bool.false_or, Bool.or_true, List.set_cons_zero, List.set_cons_succ, List.length_cons, List.length_nil, isLd, Bool.true_and, Bool.false_and, Bool.and_true, Bool.and_false]
  refine c_impl_size_int64_i (by simp) ?_
  simp (maxSteps := 300000) (disch := omega) only [gs, gs2, gs3, ↓reduceIte, Nat.reduceEqDiff, Nat.mul_one, Nat.add_zero, Nat.zero_add, Nat.zero_mul, Int.toNat_natCast, Int.reduceToNat, Nat.reduceMul, Nat.reduceAdd, decide_true, decide_false, Bool.not_true, Bool.not_false, true_and, and_true, List.map_cons, List.map_nil, List.nil_append, List.cons_append, List.append_nil, Option.map_some, Option.bind_some, List.getElem?_cons_zero, List.getElem?_cons_succ, Bool.false_eq_true, not_true_eq_false, not_false_eq_true, List.contains_cons, List.contains_nil, Nat.reduceBEq, Bool.true_or, Bool.false_or, Bool.or_true, List.set_cons_zero, List.set_cons_succ, List.length_cons, List.length_nil, isLd, Bool.true_and, Bool.false_and, Bool.and_true, Bool.and_false]
  refine gLoop_intro (fun m T G' => ∃ k : Nat, T 0 = .slice A xs.length c ∧ T 1 = .int .i64 n ∧ T 6 = .int .i64 xs.length ∧ T 7 = .int .i64 ((k : Int) - 1) ∧ m = k ∧ k ≤ xs.length ∧ G = G' ∧ (∀ j, k ≤ j → j < xs.length → ¬ xs.getD j 0 + 1 + (xs.length - j) ≤ (n.toNat : Int)))
    xs.length ⟨xs.length, by simp (maxSteps := 300000) (disch := omega) only [gs, gs2, gs3, ↓reduceIte, Nat.reduceEqDiff, Nat.mul_one, Nat.add_zero, Nat.zero_add, Nat.zero_mul, Int.toNat_natCast, Int.reduceToNat, Nat.reduceMul, Nat.reduceAdd, decide_true, decide_false, Bool.not_true, Bool.not_false, true_and, and_true, List.map_cons, List.map_nil, List.nil_append, List.cons_append, List.append_nil, Option.map_some, Option.bind_some, List.getElem?_cons_zero, List.getElem?_cons_succ, Bool.false_eq_true, not_true_eq_false, not_false_eq_true, List.contains_cons, List.contains_nil, Nat.reduceBEq, Bool.true_or, Bool.false_or, Bool.or_true, List.set_cons_zero, List.set_cons_succ, List.length_cons, List.length_nil, isLd, Bool.true_and, Bool.false_and, Bool.and_true, Bool.and_false], by simp (maxSteps := 300000) (disch := omega) only [gs, gs2, gs3, ↓reduceIte, Nat.reduceEqDiff, Nat.mul_one, Nat.add_zero, Nat.zero_add, Nat.zero_mul, Int.toNat_natCast, Int.reduceToNat, Nat.reduceMul, Nat.reduceAdd, decide_true, decide_false, Bool.not_true, Bool.not_false, true_and, and_true, List.map_cons, List.map_nil, List.nil_append, List.cons_append, List.append_nil, Option.map_some, Option.bind_some, List.getElem?_cons_zero, List.getElem?_cons_succ, Bool.false_eq_true, not_true_eq_false, not_false_eq_true, List.contains_cons, List.contains_nil, Nat.reduceBEq, Bool.true_or, Bool.false_or, Bool.or_true, List.set_cons_zero, List.set_cons_succ, List.length_cons, List.length_nil, isLd, Bool.true_and, Bool.false_and, Bool.and_true, Bool.and_false], by simp (maxSteps := 300000) (disch := omega) only [gs, gs2, gs3, ↓reduceIte, Nat.reduceEqDiff, Nat.mul_one, Nat.add_zero, Nat.zero_add, Nat.zero_mul, Int.toNat_natCast, Int.reduceToNat, Nat.reduceMul, Nat.reduceAdd, decide_true, decide_false, Bool.not_true, Bool.not_false, true_and, and_true, List.map_cons, List.map_nil, List.nil_append, List.cons_append, List.append_nil, Option.map_some, Option.bind_some, List.getElem?_cons_zero, List.getElem?_cons_succ, Bool.false_eq_true, not_true_eq_false, not_false_eq_true, List.contains_cons, List.contains_nil, Nat.reduceBEq, Bool.true_or, Bool.false_or, Bool.or_true, List.set_cons_zero, List.set_cons_succ, List.length_cons, List.length_nil, isLd, Bool.true_and, Bool.false_and, Bool.and_true, Bool.and_false], by simp (maxSteps := 300000) (disch := omega) only [gs, gs2, gs3, ↓reduceIte, Nat.reduceEqDiff, Nat.mul_one, Nat.add_zero, Nat.zero_add, Nat.zero_mul, Int.toNat_natCast, Int.reduceToNat, Nat.reduceMul, Nat.reduceAdd, decide_true, decide_false, Bool.not_true, Bool.not_false, true_and, and_true, List.map_cons, List.map_nil, List.nil_append, List.cons_append, List.append_nil, Option.map_some, Option.bind_some, List.getElem?_cons_zero, List.getElem?_cons_succ, Bool.false_eq_true, not_true_eq_false, not_false_eq_true, List.contains_cons, List.contains_nil, Nat.reduceBEq, Bool.true_or, Bool.false_or, Bool.or_true, List.set_cons_zero, List.set_cons_succ, List.length_cons, List.length_nil, isLd, Bool.true_and, Bool.false_and, Bool.and_true, Bool.and_false], rfl, Nat.le_refl _, rfl, fun j h1 h2 => by omega⟩ ?_
  rintro k T G' ⟨_, e0, e1, e6, e7, rfl, hkl, rfl, hno⟩
  by_cases hk0 : k = 0
  · subst hk0
    have e7 : T 7 = .int .i64 (-1) := by rw [e7]; rfl
    simp (maxSteps := 300000) (disch := omega) only [gs, gs2, gs3, ↓reduceIte, Nat.reduceEqDiff, Nat.mul_one, Nat.add_zero, Nat.zero_add, Nat.zero_mul, Int.toNat_natCast, Int.reduceToNat, Nat.reduceMul, Nat.reduceAdd, decide_true, decide_false, Bool.not_true, Bool.not_false, true_and, and_true, List.map_cons, List.map_nil, List.nil_append, List.cons_append, List.append_nil, Option.map_some, Option.bind_some, List.getElem?_cons_zero, List.getElem?_cons_succ, Bool.false_eq_true, not_true_eq_false, not_false_eq_true, List.contains_cons, List.contains_nil, Nat.reduceBEq, Bool.true_or, Bool.false_or, Bool.or_true, List.set_cons_zero, List.set_cons_succ, List.length_cons, List.length_nil, isLd, Bool.true_and, Bool.false_and, Bool.and_true, Bool.and_false, e0, e1, e6, e7, show ((0 : Int) ≤ -1) = False from eq_false (by omega)]
    exact h0 (nxt_none fun j hj => hno j (by omega) hj)
  · obtain ⟨i, rfl⟩ : ∃ i, k = i + 1 := ⟨k - 1, by omega⟩
    have hr := hrd i (by omega)
    have hbi := hb i (by omega)
    have hs := hsn (by omega)
    have e7 : T 7 = .int .i64 (i : Nat) := by rw [e7]; congr 1; omega
    have hk : (0 : Int) ≤ (i : Nat) := by omega
    simp (maxSteps := 300000) (disch := omega) only [gs, gs2, gs3, ↓reduceIte, Nat.reduceEqDiff, Nat.mul_one, Nat.add_zero, Nat.zero_add, Nat.zero_mul, Int.toNat_natCast, Int.reduceToNat, Nat.reduceMul, Nat.reduceAdd, decide_true, decide_false, Bool.not_true, Bool.not_false, true_and, and_true, List.map_cons, List.map_nil, List.nil_append, List.cons_append, List.append_nil, Option.map_some, Option.bind_some, List.getElem?_cons_zero, List.getElem?_cons_succ, Bool.false_eq_true, not_true_eq_false, not_false_eq_true, List.contains_cons, List.contains_nil, Nat.reduceBEq, Bool.true_or, Bool.false_or, Bool.or_true, List.set_cons_zero, List.set_cons_succ, List.length_cons, List.length_nil, isLd, Bool.true_and, Bool.false_and, Bool.and_true, Bool.and_false, e0, e1, e6, e7, hk, hr]
    by_cases hlt : xs.getD i 0 < n - xs.length + i
    · simp (maxSteps := 300000) (disch := omega) only [gs, gs2, gs3, ↓reduceIte, Nat.reduceEqDiff, Nat.mul_one, Nat.add_zero, Nat.zero_add, Nat.zero_mul, Int.toNat_natCast, Int.reduceToNat, Nat.reduceMul, Nat.reduceAdd, decide_true, decide_false, Bool.not_true, Bool.not_false, true_and, and_true, List.map_cons, List.map_nil, List.nil_append, List.cons_append, List.append_nil, Option.map_some, Option.bind_some, List.getElem?_cons_zero, List.getElem?_cons_succ, Bool.false_eq_true, not_true_eq_false, not_false_eq_true, List.contains_cons, List.contains_nil, Nat.reduceBEq, Bool.true_or, Bool.false_or, Bool.or_true, List.set_cons_zero, List.set_cons_succ, List.length_cons, List.length_nil, isLd, Bool.true_and, Bool.false_and, Bool.and_true, Bool.and_false, e0, e1, e6, e7, hlt]
      have hnx := nxt_some (n := n.toNat) (t := xs) (i := i) (by omega) (by omega) (fun j a b => hno j (by omega) b)
      rw [← nxW_end (by omega) hbi.1] at hnx
      refine slices_Clone_ok h (by omega) fun G2 A2 c2 hN => ?_
      simp (maxSteps := 300000) (disch := omega) only [gs, gs2, gs3, ↓reduceIte, Nat.reduceEqDiff, Nat.mul_one, Nat.add_zero, Nat.zero_add, Nat.zero_mul, Int.toNat_natCast, Int.reduceToNat, Nat.reduceMul, Nat.reduceAdd, decide_true, decide_false, Bool.not_true, Bool.not_false, true_and, and_true, List.map_cons, List.map_nil, List.nil_append, List.cons_append, List.append_nil, Option.map_some, Option.bind_some, List.getElem?_cons_zero, List.getElem?_cons_succ, Bool.false_eq_true, not_true_eq_false, not_false_eq_true, List.contains_cons, List.contains_nil, Nat.reduceBEq, Bool.true_or, Bool.false_or, Bool.or_true, List.set_cons_zero, List.set_cons_succ, List.length_cons, List.length_nil, isLd, Bool.true_and, Bool.false_and, Bool.and_true, Bool.and_false, e0, e1, e6, e7]
      rw [← nxW_start xs i] at hN
      refine gLoop_intro (fun m T G' => ∃ k : Nat, T 0 = .slice A xs.length c ∧ T 6 = .int .i64 xs.length ∧ T 7 = .int .i64 (i : Nat) ∧ T 8 = .slice A2 xs.length c2 ∧ T 9 = .int .i64 k ∧ m + k = xs.length ∧ i ≤ k ∧ k ≤ xs.length ∧ New G G' A2 c2 ((nxW xs i k).map I64) 1 xs.length)
        (xs.length - i) ⟨i, by simp (maxSteps := 300000) (disch := omega) only [gs, gs2, gs3, ↓reduceIte, Nat.reduceEqDiff, Nat.mul_one, Nat.add_zero, Nat.zero_add, Nat.zero_mul, Int.toNat_natCast, Int.reduceToNat, Nat.reduceMul, Nat.reduceAdd, decide_true, decide_false, Bool.not_true, Bool.not_false, true_and, and_true, List.map_cons, List.map_nil, List.nil_append, List.cons_append, List.append_nil, Option.map_some, Option.bind_some, List.getElem?_cons_zero, List.getElem?_cons_succ, Bool.false_eq_true, not_true_eq_false, not_false_eq_true, List.contains_cons, List.contains_nil, Nat.reduceBEq, Bool.true_or, Bool.false_or, Bool.or_true, List.set_cons_zero, List.set_cons_succ, List.length_cons, List.length_nil, isLd, Bool.true_and, Bool.false_and, Bool.and_true, Bool.and_false, e0], by simp (maxSteps := 300000) (disch := omega) only [gs, gs2, gs3, ↓reduceIte, Nat.reduceEqDiff, Nat.mul_one, Nat.add_zero, Nat.zero_add, Nat.zero_mul, Int.toNat_natCast, Int.reduceToNat, Nat.reduceMul, Nat.reduceAdd, decide_true, decide_false, Bool.not_true, Bool.not_false, true_and, and_true, List.map_cons, List.map_nil, List.nil_append, List.cons_append, List.append_nil, Option.map_some, Option.bind_some, List.getElem?_cons_zero, List.getElem?_cons_succ, Bool.false_eq_true, not_true_eq_false, not_false_eq_true, List.contains_cons, List.contains_nil, Nat.reduceBEq, Bool.true_or, Bool.false_or, Bool.or_true, List.set_cons_zero, List.set_cons_succ, List.length_cons, List.length_nil, isLd, Bool.true_and, Bool.false_and, Bool.and_true, Bool.and_false, e6], by simp (maxSteps := 300000) (disch := omega) only [gs, gs2, gs3, ↓reduceIte, Nat.reduceEqDiff, Nat.mul_one, Nat.add_zero, Nat.zero_add, Nat.zero_mul, Int.toNat_natCast, Int.reduceToNat, Nat.reduceMul, Nat.reduceAdd, decide_true, decide_false, Bool.not_true, Bool.not_false, true_and, and_true, List.map_cons, List.map_nil, List.nil_append, List.cons_append, List.append_nil, Option.map_some, Option.bind_some, List.getElem?_cons_zero, List.getElem?_cons_succ, Bool.false_eq_true, not_true_eq_false, not_false_eq_true, List.contains_cons, List.contains_nil, Nat.reduceBEq, Bool.true_or, Bool.false_or, Bool.or_true, List.set_cons_zero, List.set_cons_succ, List.length_cons, List.length_nil, isLd, Bool.true_and, Bool.false_and, Bool.and_true, Bool.and_false, e7], by simp (maxSteps := 300000) (disch := omega) only [gs, gs2, gs3, ↓reduceIte, Nat.reduceEqDiff, Nat.mul_one, Nat.add_zero, Nat.zero_add, Nat.zero_mul, Int.toNat_natCast, Int.reduceToNat, Nat.reduceMul, Nat.reduceAdd, decide_true, decide_false, Bool.not_true, Bool.not_false, true_and, and_true, List.map_cons, List.map_nil, List.nil_append, List.cons_append, List.append_nil, Option.map_some, Option.bind_some, List.getElem?_cons_zero, List.getElem?_cons_succ, Bool.false_eq_true, not_true_eq_false, not_false_eq_true, List.contains_cons, List.contains_nil, Nat.reduceBEq, Bool.true_or, Bool.false_or, Bool.or_true, List.set_cons_zero, List.set_cons_succ, List.length_cons, List.length_nil, isLd, Bool.true_and, Bool.false_and, Bool.and_true, Bool.and_false], by simp (maxSteps := 300000) (disch := omega) only [gs, gs2, gs3, ↓reduceIte, Nat.reduceEqDiff, Nat.mul_one, Nat.add_zero, Nat.zero_add, Nat.zero_mul, Int.toNat_natCast, Int.reduceToNat, Nat.reduceMul, Nat.reduceAdd, decide_true, decide_false, Bool.not_true, Bool.not_false, true_and, and_true, List.map_cons, List.map_nil, List.nil_append, List.cons_append, List.append_nil, Option.map_some, Option.bind_some, List.getElem?_cons_zero, List.getElem?_cons_succ, Bool.false_eq_true, not_true_eq_false, not_false_eq_true, List.contains_cons, List.contains_nil, Nat.reduceBEq, Bool.true_or, Bool.false_or, Bool.or_true, List.set_cons_zero, List.set_cons_succ, List.length_cons, List.length_nil, isLd, Bool.true_and, Bool.false_and, Bool.and_true, Bool.and_false, e7], by omega, Nat.le_refl _, by omega, by rw [nxW_len] at hN; exact hN⟩ ?_
      rintro m T G' ⟨k, e0, e6, e7, e8, e9, hm, hik, hkl, hN⟩
      simp (maxSteps := 300000) (disch := omega) only [gs, gs2, gs3, ↓reduceIte, Nat.reduceEqDiff, Nat.mul_one, Nat.add_zero, Nat.zero_add, Nat.zero_mul, Int.toNat_natCast, Int.reduceToNat, Nat.reduceMul, Nat.reduceAdd, decide_true, decide_false, Bool.not_true, Bool.not_false, true_and, and_true, List.map_cons, List.map_nil, List.nil_append, List.cons_append, List.append_nil, Option.map_some, Option.bind_some, List.getElem?_cons_zero, List.getElem?_cons_succ, Bool.false_eq_true, not_true_eq_false, not_false_eq_true, List.contains_cons, List.contains_nil, Nat.reduceBEq, Bool.true_or, Bool.false_or, Bool.or_true, List.set_cons_zero, List.set_cons_succ, List.length_cons, List.length_nil, isLd, Bool.true_and, Bool.false_and, Bool.and_true, Bool.and_false, e0, e6, e7, e8, e9]
      by_cases hkk : (k : Int) < xs.length
      · have hr2 := rd_sub hN.sub hr
        have hs2 := hN.sn (by omega)
        simp (maxSteps := 300000) (disch := omega) only [gs, gs2, gs3, ↓reduceIte, Nat.reduceEqDiff, Nat.mul_one, Nat.add_zero, Nat.zero_add, Nat.zero_mul, Int.toNat_natCast, Int.reduceToNat, Nat.reduceMul, Nat.reduceAdd, decide_true, decide_false, Bool.not_true, Bool.not_false, true_and, and_true, List.map_cons, List.map_nil, List.nil_append, List.cons_append, List.append_nil, Option.map_some, Option.bind_some, List.getElem?_cons_zero, List.getElem?_cons_succ, Bool.false_eq_true, not_true_eq_false, not_false_eq_true, List.contains_cons, List.contains_nil, Nat.reduceBEq, Bool.true_or, Bool.false_or, Bool.or_true, List.set_cons_zero, List.set_cons_succ, List.length_cons, List.length_nil, isLd, Bool.true_and, Bool.false_and, Bool.and_true, Bool.and_false, e0, e6, e7, e8, e9, hkk, hr2]
        refine hN.store (k := k) (by omega) rfl fun G3 hN3 => ?_
        simp (maxSteps := 300000) (disch := omega) only [gs, gs2, gs3, ↓reduceIte, Nat.reduceEqDiff, Nat.mul_one, Nat.add_zero, Nat.zero_add, Nat.zero_mul, Int.toNat_natCast, Int.reduceToNat, Nat.reduceMul, Nat.reduceAdd, decide_true, decide_false, Bool.not_true, Bool.not_false, true_and, and_true, List.map_cons, List.map_nil, List.nil_append, List.cons_append, List.append_nil, Option.map_some, Option.bind_some, List.getElem?_cons_zero, List.getElem?_cons_succ, Bool.false_eq_true, not_true_eq_false, not_false_eq_true, List.contains_cons, List.contains_nil, Nat.reduceBEq, Bool.true_or, Bool.false_or, Bool.or_true, List.set_cons_zero, List.set_cons_succ, List.length_cons, List.length_nil, isLd, Bool.true_and, Bool.false_and, Bool.and_true, Bool.and_false, e0, e6, e7, e8, e9]
        refine ⟨m - 1, by omega, G3, Sub.refl _, k + 1, rfl, by omega, by omega, by omega, ?_⟩
        rw [← nxW_set hik (by omega), List.map_set]
        exact hN3
      · simp (maxSteps := 300000) (disch := omega) only [gs, gs2, gs3, ↓reduceIte, Nat.reduceEqDiff, Nat.mul_one, Nat.add_zero, Nat.zero_add, Nat.zero_mul, Int.toNat_natCast, Int.reduceToNat, Nat.reduceMul, Nat.reduceAdd, decide_true, decide_false, Bool.not_true, Bool.not_false, true_and, and_true, List.map_cons, List.map_nil, List.nil_append, List.cons_append, List.append_nil, Option.map_some, Option.bind_some, List.getElem?_cons_zero, List.getElem?_cons_succ, Bool.false_eq_true, not_true_eq_false, not_false_eq_true, List.contains_cons, List.contains_nil, Nat.reduceBEq, Bool.true_or, Bool.false_or, Bool.or_true, List.set_cons_zero, List.set_cons_succ, List.length_cons, List.length_nil, isLd, Bool.true_and, Bool.false_and, Bool.and_true, Bool.and_false, e0, e6, e7, e8, e9, hkk]
        obtain rfl : k = xs.length := by omega
        exact h1 _ hnx (nxW_len _ _ _) _ _ _ hN
    · simp (maxSteps := 300000) (disch := omega) only [gs, gs2, gs3, ↓reduceIte, Nat.reduceEqDiff, Nat.mul_one, Nat.add_zero, Nat.zero_add, Nat.zero_mul, Int.toNat_natCast, Int.reduceToNat, Nat.reduceMul, Nat.reduceAdd, decide_true, decide_false, Bool.not_true, Bool.not_false, true_and, and_true, List.map_cons, List.map_nil, List.nil_append, List.cons_append, List.append_nil, Option.map_some, Option.bind_some, List.getElem?_cons_zero, List.getElem?_cons_succ, Bool.false_eq_true, not_true_eq_false, not_false_eq_true, List.contains_cons, List.contains_nil, Nat.reduceBEq, Bool.true_or, Bool.false_or, Bool.or_true, List.set_cons_zero, List.set_cons_succ, List.length_cons, List.length_nil, isLd, Bool.true_and, Bool.false_and, Bool.and_true, Bool.and_false, e0, e1, e6, e7, hlt]
      exact ⟨i, by omega, G, Sub.refl _, i, rfl, rfl, by omega, rfl, fun j h1 h2 => by
        by_cases e : j = i
        · subst e; omega
        · exact hno j (by omega) h2⟩
theorem setAll_step (value : Int) (s xs : List Int) {k : Nat} (hk : k < s.length) : setAll value (s.take (k + 1)) xs = (setAll value (s.take k) xs).set (s.getD k 0).toNat value := by
  rw [List.take_succ_eq_append_getElem hk, setAll_snoc]
  simp [List.getD, hk]
theorem impl_leadsTo_ok {G : GH} {N : Gra} {A B C : Option Addr} {c d e : Nat} {xs s : List Int} {own value : Int} (h : T3S G A c N.edges) (hf : IntS G B d xs) (hg : IntS G C e s) (hs : ∀ j, j < s.length → 0 ≤ s.getD j 0 ∧ s.getD j 0 < xs.length) (hl : s.length < 2 ^ 20) (hn : GraOk N) (hx : VecOk N xs) (ho : 0 ≤ own ∧ own ≤ 1000) (hv : -1000000 ≤ value ∧ value ≤ 1000000) {K : Value → GH → Prop}
    (hk : K (.bool (leadB N own value xs s)) G) : GC Try.prog 130 [graV N A c, .slice B xs.length d, .int .i64 own, .int .i64 value, .slice C s.length e] G K := by
  refine GC_drop (c_impl_leadsTo_i (by simp) ?_)
  have hn1 := hn.1
  have hx1 := hx.1
  unfold graV graC
  simp (maxSteps := 300000) (disch := omega) only [gs, gs2, gs3, ↓reduceIte, Nat.reduceEqDiff, Nat.mul_one, Nat.add_zero, Nat.zero_add, Nat.zero_mul, Int.toNat_natCast, Int.reduceToNat, Nat.reduceMul, Nat.reduceAdd, decide_true, decide_false, Bool.not_true, Bool.not_false, true_and, and_true, List.map_cons, List.map_nil, List.nil_append, List.cons_append, List.append_nil, Option.map_some, Option.bind_some, List.getElem?_cons_zero, List.getElem?_cons_succ, Bool.false_eq_true, not_true_eq_false, not_false_eq_true, List.contains_cons, List.contains_nil, Nat.reduceBEq, Bool.true_or, Bool.false_or, Bool.or_true, List.set_cons_zero, List.set_cons_succ, List.length_cons, List.length_nil, isLd, Bool.true_and, Bool.false_and, Bool.and_true, Bool.and_false]
  intro b5 hb5
  simp (maxSteps := 300000) (disch := omega) only [gs, gs2, gs3, ↓reduceIte, Nat.reduceEqDiff, Nat.mul_one, Nat.add_zero, Nat.zero_add, Nat.zero_mul, Int.toNat_natCast, Int.reduceToNat, Nat.reduceMul, Nat.reduceAdd, decide_true, decide_false, Bool.not_true, Bool.not_false, true_and, and_true, List.map_cons, List.map_nil, List.nil_append, List.cons_append, List.append_nil, Option.map_some, Option.bind_some, List.getElem?_cons_zero, List.getElem?_cons_succ, Bool.false_eq_true, not_true_eq_false, not_false_eq_true, List.contains_cons, List.contains_nil, Nat.reduceBEq, Bool.true_or, Bool.false_or, Bool.or_true, List.set_cons_zero, List.set_cons_succ, List.length_cons, List.length_nil, isLd, Bool.true_and, Bool.false_and, Bool.and_true, Bool.and_false]
  intro b8 hb8
  have q8 := put_none.1 hb8
  have s1 := ((Sub.refl G).skip hb5 (e := ⟨[.int .i64 N.n, .slice A N.edges.length c], true⟩)).skip q8.2 (e := ⟨[.int .i64 value], true⟩)
  have f0 : rd (put (put G b5 ⟨[.int .i64 N.n, .slice A N.edges.length c], true⟩) b8 ⟨[.int .i64 value], true⟩) (some ⟨b5, 0, none⟩) = some (.int .i64 N.n) := by
    rw [rd_put_ne _ _ _ _ _ (fun x => q8.1 x.symm)]; exact rd_box _ _ _ 0 _ rfl
  have f1 : rd (put (put G b5 ⟨[.int .i64 N.n, .slice A N.edges.length c], true⟩) b8 ⟨[.int .i64 value], true⟩) (some ⟨b5, 1, none⟩) = some (.slice A N.edges.length c) := by
    rw [rd_put_ne _ _ _ _ _ (fun x => q8.1 x.symm)]; exact rd_box _ _ _ 1 _ rfl
  have f8 : rd (put (put G b5 ⟨[.int .i64 N.n, .slice A N.edges.length c], true⟩) b8 ⟨[.int .i64 value], true⟩) (some ⟨b8, 0, none⟩) = some (.int .i64 value) := rd_box _ _ _ 0 _ rfl
  revert s1 f0 f1 f8
  generalize put (put G b5 ⟨[.int .i64 N.n, .slice A N.edges.length c], true⟩) b8 ⟨[.int .i64 value], true⟩ = G1
  intro s1 f0 f1 f8
  simp (maxSteps := 300000) (disch := omega) only [gs, gs2, gs3, ↓reduceIte, Nat.reduceEqDiff, Nat.mul_one, Nat.add_zero, Nat.zero_add, Nat.zero_mul, Int.toNat_natCast, Int.reduceToNat, Nat.reduceMul, Nat.reduceAdd, decide_true, decide_false, Bool.not_true, Bool.not_false, true_and, and_true, List.map_cons, List.map_nil, List.nil_append, List.cons_append, List.append_nil, Option.map_some, Option.bind_some, List.getElem?_cons_zero, List.getElem?_cons_succ, Bool.false_eq_true, not_true_eq_false, not_false_eq_true, List.contains_cons, List.contains_nil, Nat.reduceBEq, Bool.true_or, Bool.false_or, Bool.or_true, List.set_cons_zero, List.set_cons_succ, List.length_cons, List.length_nil, isLd, Bool.true_and, Bool.false_and, Bool.and_true, Bool.and_false]
  refine slices_Clone_ok (hf.sub s1) (by omega) fun G2 A2 c2 hN => ?_
  simp (maxSteps := 300000) (disch := omega) only [gs, gs2, gs3, ↓reduceIte, Nat.reduceEqDiff, Nat.mul_one, Nat.add_zero, Nat.zero_add, Nat.zero_mul, Int.toNat_natCast, Int.reduceToNat, Nat.reduceMul, Nat.reduceAdd, decide_true, decide_false, Bool.not_true, Bool.not_false, true_and, and_true, List.map_cons, List.map_nil, List.nil_append, List.cons_append, List.append_nil, Option.map_some, Option.bind_some, List.getElem?_cons_zero, List.getElem?_cons_succ, Bool.false_eq_true, not_true_eq_false, not_false_eq_true, List.contains_cons, List.contains_nil, Nat.reduceBEq, Bool.true_or, Bool.false_or, Bool.or_true, List.set_cons_zero, List.set_cons_succ, List.length_cons, List.length_nil, isLd, Bool.true_and, Bool.false_and, Bool.and_true, Bool.and_false]
  have hgs := hg.sub s1
  refine gLoop_intro (fun m T G' => ∃ k : Nat, T 2 = .int .i64 own ∧ T 4 = .slice C s.length e ∧ T 5 = .pointer (some ⟨b5, 0, none⟩) ∧ T 8 = .pointer (some ⟨b8, 0, none⟩) ∧ T 11 = .slice A2 xs.length c2 ∧ T 18 = .slice C s.length e ∧ T 19 = .int .i64 s.length ∧ T 20 = .int .i64 k ∧ m + k = s.length ∧ k ≤ s.length ∧ New G1 G' A2 c2 ((setAll value (s.take k) xs).map I64) 1 xs.length)
    s.length ⟨0, by simp (maxSteps := 300000) (disch := omega) only [gs, gs2, gs3, ↓reduceIte, Nat.reduceEqDiff, Nat.mul_one, Nat.add_zero, Nat.zero_add, Nat.zero_mul, Int.toNat_natCast, Int.reduceToNat, Nat.reduceMul, Nat.reduceAdd, decide_true, decide_false, Bool.not_true, Bool.not_false, true_and, and_true, List.map_cons, List.map_nil, List.nil_append, List.cons_append, List.append_nil, Option.map_some, Option.bind_some, List.getElem?_cons_zero, List.getElem?_cons_succ, Bool.false_eq_true, not_true_eq_false, not_false_eq_true, List.contains_cons, List.contains_nil, Nat.reduceBEq, Bool.true_or, Bool.false_or, Bool.or_true, List.set_cons_zero, List.set_cons_succ, List.length_cons, List.length_nil, isLd, Bool.true_and, Bool.false_and, Bool.and_true, Bool.and_false], by simp (maxSteps := 300000) (disch := omega) only [gs, gs2, gs3, ↓reduceIte, Nat.reduceEqDiff, Nat.mul_one, Nat.add_zero, Nat.zero_add, Nat.zero_mul, Int.toNat_natCast, Int.reduceToNat, Nat.reduceMul, Nat.reduceAdd, decide_true, decide_false, Bool.not_true, Bool.not_false, true_and, and_true, List.map_cons, List.map_nil, List.nil_append, List.cons_append, List.append_nil, Option.map_some, Option.bind_some, List.getElem?_cons_zero, List.getElem?_cons_succ, Bool.false_eq_true, not_true_eq_false, not_false_eq_true, List.contains_cons, List.contains_nil, Nat.reduceBEq, Bool.true_or, Bool.false_or, Bool.or_true, List.set_cons_zero, List.set_cons_succ, List.length_cons, List.length_nil, isLd, Bool.true_and, Bool.false_and, Bool.and_true, Bool.and_false], by simp (maxSteps := 300000) (disch := omega) only [gs, gs2, gs3, ↓reduceIte, Nat.reduceEqDiff, Nat.mul_one, Nat.add_zero, Nat.zero_add, Nat.zero_mul, Int.toNat_natCast, Int.reduceToNat, Nat.reduceMul, Nat.reduceAdd, decide_true, decide_false, Bool.not_true, Bool.not_false, true_and, and_true, List.map_cons, List.map_nil, List.nil_append, List.cons_append, List.append_nil, Option.map_some, Option.bind_some, List.getElem?_cons_zero, List.getElem?_cons_succ, Bool.false_eq_true, not_true_eq_false, not_false_eq_true, List.contains_cons, List.contains_nil, Nat.reduceBEq, Bool.true_or, Bool.false_or, Bool.or_true, List.set_cons_zero, List.set_cons_succ, List.length_cons, List.length_nil, isLd, Bool.true_and, Bool.false_and, Bool.and_true, Bool.and_false], by simp (maxSteps := 300000) (disch := omega) only [gs, gs2, gs3, ↓reduceIte, Nat.reduceEqDiff, Nat.mul_one, Nat.add_zero, Nat.zero_add, Nat.zero_mul, Int.toNat_natCast, Int.reduceToNat, Nat.reduceMul, Nat.reduceAdd, decide_true, decide_false, Bool.not_true, Bool.not_false, true_and, and_true, List.map_cons, List.map_nil, List.nil_append, List.cons_append, List.append_nil, Option.map_some, Option.bind_some, List.getElem?_cons_zero, List.getElem?_cons_succ, Bool.false_eq_true, not_true_eq_false, not_false_eq_true, List.contains_cons, List.contains_nil, Nat.reduceBEq, Bool.true_or, Bool.false_or, Bool.or_true, List.set_cons_zero, List.set_cons_succ, List.length_cons, List.length_nil, isLd, Bool.true_and, Bool.false_and, Bool.and_true, Bool.and_false], by simp (maxSteps := 300000) (disch := omega) only [gs, gs2, gs3, ↓reduceIte, Nat.reduceEqDiff, Nat.mul_one, Nat.add_zero, Nat.zero_add, Nat.zero_mul, Int.toNat_natCast, Int.reduceToNat, Nat.reduceMul, Nat.reduceAdd, decide_true, decide_false, Bool.not_true, Bool.not_false, true_and, and_true, List.map_cons, List.map_nil, List.nil_append, List.cons_append, List.append_nil, Option.map_some, Option.bind_some, List.getElem?_cons_zero, List.getElem?_cons_succ, Bool.false_eq_true, not_true_eq_false, not_false_eq_true, List.contains_cons, List.contains_nil, Nat.reduceBEq, Bool.true_or, Bool.false_or, Bool.or_true, List.set_cons_zero, List.set_cons_succ, List.length_cons, List.length_nil, isLd, Bool.true_and, Bool.false_and, Bool.and_true, Bool.and_false], by simp (maxSteps := 300000) (disch := omega) only [gs, gs2, gs3, ↓reduceIte, Nat.reduceEqDiff, Nat.mul_one, Nat.add_zero, Nat.zero_add, Nat.zero_mul, Int.toNat_natCast, Int.reduceToNat, Nat.reduceMul, Nat.reduceAdd, decide_true, decide_false, Bool.not_true, Bool.not_false, true_and, and_true, List.map_cons, List.map_nil, List.nil_append, List.cons_append, List.append_nil, Option.map_some, Option.bind_some, List.getElem?_cons_zero, List.getElem?_cons_succ, Bool.false_eq_true, not_true_eq_false, not_false_eq_true, List.contains_cons, List.contains_nil, Nat.reduceBEq, Bool.true_or, Bool.false_or, Bool.or_true, List.set_cons_zero, List.set_cons_succ, List.length_cons, List.length_nil, isLd, Bool.true_and, Bool.false_and, Bool.and_true, Bool.and_false], by simp (maxSteps := 300000) (disch := omega) only [gs, gs2, gs3, ↓reduceIte, Nat.reduceEqDiff, Nat.mul_one, Nat.add_zero, Nat.zero_add, Nat.zero_mul, Int.toNat_natCast, Int.reduceToNat, Nat.reduceMul, Nat.reduceAdd, decide_true, decide_false, Bool.not_true, Bool.not_false, true_and, and_true, List.map_cons, List.map_nil, List.nil_append, List.cons_append, List.append_nil, Option.map_some, Option.bind_some, List.getElem?_cons_zero, List.getElem?_cons_succ, Bool.false_eq_true, not_true_eq_false, not_false_eq_true, List.contains_cons, List.contains_nil, Nat.reduceBEq, Bool.true_or, Bool.false_or, Bool.or_true, List.set_cons_zero, List.set_cons_succ, List.length_cons, List.length_nil, isLd, Bool.true_and, Bool.false_and, Bool.and_true, Bool.and_false], by simp (maxSteps := 300000) (disch := omega) only [gs, gs2, gs3, ↓reduceIte, Nat.reduceEqDiff, Nat.mul_one, Nat.add_zero, Nat.zero_add, Nat.zero_mul, Int.toNat_natCast, Int.reduceToNat, Nat.reduceMul, Nat.reduceAdd, decide_true, decide_false, Bool.not_true, Bool.not_false, true_and, and_true, List.map_cons, List.map_nil, List.nil_append, List.cons_append, List.append_nil, Option.map_some, Option.bind_some, List.getElem?_cons_zero, List.getElem?_cons_succ, Bool.false_eq_true, not_true_eq_false, not_false_eq_true, List.contains_cons, List.contains_nil, Nat.reduceBEq, Bool.true_or, Bool.false_or, Bool.or_true, List.set_cons_zero, List.set_cons_succ, List.length_cons, List.length_nil, isLd, Bool.true_and, Bool.false_and, Bool.and_true, Bool.and_false] <;> rfl, by omega, by omega, hN⟩ ?_
  clear hN
  rintro m T G' ⟨k, e2, e4, e5, e8, e11, e18, e19, e20, hm, hkm, hN⟩
  have r := (hgs.sub hN.sub).rd
  have g0 := rd_sub hN.sub f0
  have g1 := rd_sub hN.sub f1
  have g8 := rd_sub hN.sub f8
  simp (maxSteps := 300000) (disch := omega) only [gs, gs2, gs3, ↓reduceIte, Nat.reduceEqDiff, Nat.mul_one, Nat.add_zero, Nat.zero_add, Nat.zero_mul, Int.toNat_natCast, Int.reduceToNat, Nat.reduceMul, Nat.reduceAdd, decide_true, decide_false, Bool.not_true, Bool.not_false, true_and, and_true, List.map_cons, List.map_nil, List.nil_append, List.cons_append, List.append_nil, Option.map_some, Option.bind_some, List.getElem?_cons_zero, List.getElem?_cons_succ, Bool.false_eq_true, not_true_eq_false, not_false_eq_true, List.contains_cons, List.contains_nil, Nat.reduceBEq, Bool.true_or, Bool.false_or, Bool.or_true, List.set_cons_zero, List.set_cons_succ, List.length_cons, List.length_nil, isLd, Bool.true_and, Bool.false_and, Bool.and_true, Bool.and_false, e2, e4, e5, e8, e11, e18, e19, e20]
  by_cases hkk : (k : Int) < s.length
  · have hr := r k (by omega)
    have hsn := hg.sn (by omega)
    obtain ⟨j0, j1⟩ := hs k (by omega)
    have hs2 := hN.sn (by omega)
    simp (maxSteps := 300000) (disch := omega) only [gs, gs2, gs3, ↓reduceIte, Nat.reduceEqDiff, Nat.mul_one, Nat.add_zero, Nat.zero_add, Nat.zero_mul, Int.toNat_natCast, Int.reduceToNat, Nat.reduceMul, Nat.reduceAdd, decide_true, decide_false, Bool.not_true, Bool.not_false, true_and, and_true, List.map_cons, List.map_nil, List.nil_append, List.cons_append, List.append_nil, Option.map_some, Option.bind_some, List.getElem?_cons_zero, List.getElem?_cons_succ, Bool.false_eq_true, not_true_eq_false, not_false_eq_true, List.contains_cons, List.contains_nil, Nat.reduceBEq, Bool.true_or, Bool.false_or, Bool.or_true, List.set_cons_zero, List.set_cons_succ, List.length_cons, List.length_nil, isLd, Bool.true_and, Bool.false_and, Bool.and_true, Bool.and_false, e2, e4, e5, e8, e11, e18, e19, e20, hkk, hr, g8]
    refine hN.store (k := (s.getD k 0).toNat) (by omega) rfl fun G3 hN3 => ?_
    simp (maxSteps := 300000) (disch := omega) only [gs, gs2, gs3, ↓reduceIte, Nat.reduceEqDiff, Nat.mul_one, Nat.add_zero, Nat.zero_add, Nat.zero_mul, Int.toNat_natCast, Int.reduceToNat, Nat.reduceMul, Nat.reduceAdd, decide_true, decide_false, Bool.not_true, Bool.not_false, true_and, and_true, List.map_cons, List.map_nil, List.nil_append, List.cons_append, List.append_nil, Option.map_some, Option.bind_some, List.getElem?_cons_zero, List.getElem?_cons_succ, Bool.false_eq_true, not_true_eq_false, not_false_eq_true, List.contains_cons, List.contains_nil, Nat.reduceBEq, Bool.true_or, Bool.false_or, Bool.or_true, List.set_cons_zero, List.set_cons_succ, List.length_cons, List.length_nil, isLd, Bool.true_and, Bool.false_and, Bool.and_true, Bool.and_false, e2, e4, e5, e8, e11, e18, e19, e20]
    refine ⟨m - 1, by omega, G3, Sub.refl _, k + 1, rfl, by omega, by omega, ?_⟩
    rw [setAll_step _ _ _ (by omega), List.map_set]; exact hN3
  · simp (maxSteps := 300000) (disch := omega) only [gs, gs2, gs3, ↓reduceIte, Nat.reduceEqDiff, Nat.mul_one, Nat.add_zero, Nat.zero_add, Nat.zero_mul, Int.toNat_natCast, Int.reduceToNat, Nat.reduceMul, Nat.reduceAdd, decide_true, decide_false, Bool.not_true, Bool.not_false, true_and, and_true, List.map_cons, List.map_nil, List.nil_append, List.cons_append, List.append_nil, Option.map_some, Option.bind_some, List.getElem?_cons_zero, List.getElem?_cons_succ, Bool.false_eq_true, not_true_eq_false, not_false_eq_true, List.contains_cons, List.contains_nil, Nat.reduceBEq, Bool.true_or, Bool.false_or, Bool.or_true, List.set_cons_zero, List.set_cons_succ, List.length_cons, List.length_nil, isLd, Bool.true_and, Bool.false_and, Bool.and_true, Bool.and_false, e2, e4, e5, e8, e11, e18, e19, e20, hkk, g0, g1]
    obtain rfl : k = s.length := by omega
    rw [List.take_length] at hN
    have hlen := setAll_len value s xs
    have hI : IntS G' A2 c2 (setAll value s xs) := hN.ints' hlen.symm
    rw [show Value.slice A2 xs.length c2 = .slice A2 (setAll value s xs).length c2 by rw [hlen]]
    have hok := setAll_ok hv s xs hx
    have hrg := restF_range (avStep N.edges own 2000000 s) 1001 0 (setAll value s xs)
    refine impl_averageRest_ok (N := N) ((h.sub s1).sub hN.sub) hI (hgs.sub hN.sub) (by omega) hn hok ho ⟨fun hp G3 A3 c3 hN3 => ?_, fun hp => ?_⟩
    · simp (maxSteps := 300000) (disch := omega) only [gs, gs2, gs3, ↓reduceIte, Nat.reduceEqDiff, Nat.mul_one, Nat.add_zero, Nat.zero_add, Nat.zero_mul, Int.toNat_natCast, Int.reduceToNat, Nat.reduceMul, Nat.reduceAdd, decide_true, decide_false, Bool.not_true, Bool.not_false, true_and, and_true, List.map_cons, List.map_nil, List.nil_append, List.cons_append, List.append_nil, Option.map_some, Option.bind_some, List.getElem?_cons_zero, List.getElem?_cons_succ, Bool.false_eq_true, not_true_eq_false, not_false_eq_true, List.contains_cons, List.contains_nil, Nat.reduceBEq, Bool.true_or, Bool.false_or, Bool.or_true, List.set_cons_zero, List.set_cons_succ, List.length_cons, List.length_nil, isLd, Bool.true_and, Bool.false_and, Bool.and_true, Bool.and_false, e8, hp]
      have hl3 : (restF (avStep N.edges own 2000000 s) 1001 0 (setAll value s xs)).2.length < 2 ^ 40 := by
        have := (restF_inv (step := avStep N.edges own 2000000 s) (P := VecOk N) (fun y hy => avStep_ok hn hy ho s) 1001 0 _ hok).1; omega
      have k8 := rd_sub hN3.sub g8
      refine slices_ContainsFunc_ok (fun n => n != value) hN3.ints hl3 (fun i hi K' hK' => ?_) ?_
      · simp (maxSteps := 300000) (disch := omega) only [gs, gs2, gs3, ↓reduceIte, Nat.reduceEqDiff, Nat.mul_one, Nat.add_zero, Nat.zero_add, Nat.zero_mul, Int.toNat_natCast, Int.reduceToNat, Nat.reduceMul, Nat.reduceAdd, decide_true, decide_false, Bool.not_true, Bool.not_false, true_and, and_true, List.map_cons, List.map_nil, List.nil_append, List.cons_append, List.append_nil, Option.map_some, Option.bind_some, List.getElem?_cons_zero, List.getElem?_cons_succ, Bool.false_eq_true, not_true_eq_false, not_false_eq_true, List.contains_cons, List.contains_nil, Nat.reduceBEq, Bool.true_or, Bool.false_or, Bool.or_true, List.set_cons_zero, List.set_cons_succ, List.length_cons, List.length_nil, isLd, Bool.true_and, Bool.false_and, Bool.and_true, Bool.and_false]
        refine c_impl_leadsTo_fn1_i (by simp) ?_
        simp (maxSteps := 300000) (disch := omega) only [gs, gs2, gs3, ↓reduceIte, Nat.reduceEqDiff, Nat.mul_one, Nat.add_zero, Nat.zero_add, Nat.zero_mul, Int.toNat_natCast, Int.reduceToNat, Nat.reduceMul, Nat.reduceAdd, decide_true, decide_false, Bool.not_true, Bool.not_false, true_and, and_true, List.map_cons, List.map_nil, List.nil_append, List.cons_append, List.append_nil, Option.map_some, Option.bind_some, List.getElem?_cons_zero, List.getElem?_cons_succ, Bool.false_eq_true, not_true_eq_false, not_false_eq_true, List.contains_cons, List.contains_nil, Nat.reduceBEq, Bool.true_or, Bool.false_or, Bool.or_true, List.set_cons_zero, List.set_cons_succ, List.length_cons, List.length_nil, isLd, Bool.true_and, Bool.false_and, Bool.and_true, Bool.and_false, k8]
        have e : ∀ y : Int, (decide ¬ y = value) = (y != value) := fun y => by by_cases h : y = value <;> simp [h]
        rw [e]; exact hK'
      · simp (maxSteps := 300000) (disch := omega) only [gs, gs2, gs3, ↓reduceIte, Nat.reduceEqDiff, Nat.mul_one, Nat.add_zero, Nat.zero_add, Nat.zero_mul, Int.toNat_natCast, Int.reduceToNat, Nat.reduceMul, Nat.reduceAdd, decide_true, decide_false, Bool.not_true, Bool.not_false, true_and, and_true, List.map_cons, List.map_nil, List.nil_append, List.cons_append, List.append_nil, Option.map_some, Option.bind_some, List.getElem?_cons_zero, List.getElem?_cons_succ, Bool.false_eq_true, not_true_eq_false, not_false_eq_true, List.contains_cons, List.contains_nil, Nat.reduceBEq, Bool.true_or, Bool.false_or, Bool.or_true, List.set_cons_zero, List.set_cons_succ, List.length_cons, List.length_nil, isLd, Bool.true_and, Bool.false_and, Bool.and_true, Bool.and_false]
        have e : leadB N own value xs s = !((restF (avStep N.edges own 2000000 s) 1001 0 (setAll value s xs)).2.any fun n => n != value) := by
          unfold leadB
          rw [decide_eq_true hp, Bool.true_and]
          simp [List.all_eq_not_any_not, bne]
        rw [e] at hk
        exact ⟨G, (s1.trans hN.sub).trans hN3.sub, hk⟩
    · simp (maxSteps := 300000) (disch := omega) only [gs, gs2, gs3, ↓reduceIte, Nat.reduceEqDiff, Nat.mul_one, Nat.add_zero, Nat.zero_add, Nat.zero_mul, Int.toNat_natCast, Int.reduceToNat, Nat.reduceMul, Nat.reduceAdd, decide_true, decide_false, Bool.not_true, Bool.not_false, true_and, and_true, List.map_cons, List.map_nil, List.nil_append, List.cons_append, List.append_nil, Option.map_some, Option.bind_some, List.getElem?_cons_zero, List.getElem?_cons_succ, Bool.false_eq_true, not_true_eq_false, not_false_eq_true, List.contains_cons, List.contains_nil, Nat.reduceBEq, Bool.true_or, Bool.false_or, Bool.or_true, List.set_cons_zero, List.set_cons_succ, List.length_cons, List.length_nil, isLd, Bool.true_and, Bool.false_and, Bool.and_true, Bool.and_false, hp, show ((0 : Int) ≤ -1) = False from eq_false (by omega)]
      have e : leadB N own value xs s = false := by
        unfold leadB
        rw [hp]; simp
      rw [e] at hk
      exact ⟨G, s1.trans hN.sub, hk⟩
theorem Own.keep {G G' : GH} {A : Option Addr} {b c sz n : Nat} {cs : List Value} (h : Own G A c cs sz n) (hK : Keep b G G') (hb : ∀ a, A = some a → a.block ≠ b) : Own G' A c cs sz n := by
  rcases h with h1 | ⟨x, r, h1, h2, h3⟩
  · exact .inl h1
  · exact .inr ⟨x, r, h1, by rw [hK x (hb _ h1)]; exact h2, h3⟩
theorem New.offs {H G G' : GH} {A : Option Addr} {c sz n : Nat} {cs : List Value} (h : New G G' A c cs sz n) (s : Sub H G) : Off H A := fun a ha => by
  rcases h with ⟨h1, _⟩ | ⟨b, r, h1, h2, _⟩
  · rw [h1] at ha; cases ha
  · rw [h1] at ha; cases ha; exact s.none h2
theorem New.nb {G G' : GH} {A : Option Addr} {b c sz n : Nat} {cs : List Value} {e : Ent} (h : New G G' A c cs sz n) (hb : G b = some e) : ∀ a, A = some a → a.block ≠ b := fun a ha hx => by
  rcases h with ⟨h1, _⟩ | ⟨x, r, h1, h2, _⟩
  · rw [h1] at ha; cases ha
  · rw [h1] at ha; cases ha
    simp only at hx
    rw [hx, hb] at h2; cases h2
open Classical in
/-- what FewestFixed returns. -/
noncomputable def fewV (N : Gra) (xs : List Int) (own value budget : Int) : List Int × Int :=
  if stepC N xs own [] ≠ 0 then ([], stepC N xs own []) else if ¬ ((-1000000 ≤ value ∧ value ≤ 1000000) ∧ 1 ≤ budget ∧ budget ≤ 20000) then ([], 2)
  else match seek (leadB N own value xs) budget.toNat (allFrom N.n.toNat 0) 0 with
    | (some s, _, _) => (s, 0)
    | _ => ([], 5)
/-- one of the sets wins, or the budget ends. -/
theorem few_done {N : Gra} {xs : List Int} (hn : GraOk N) (hx : VecOk N xs) {own value : Int} {bud k : Nat} (h : seek (leadB N own value xs) bud (allFrom N.n.toNat 0) 0 = (none, k, false)) : False := by
  have hn1 := hn.1
  have hx1 := hx.1
  have hf := lead_full N own value xs
  have hm : rng 0 xs.length ∈ allFrom N.n.toNat 0 := by
    simp only [allFrom, List.mem_flatMap, List.mem_range'_1]
    refine ⟨N.n.toNat, by omega, ?_⟩
    rw [chs_full N.n.toNat N.n.toNat 0 (by omega), show xs.length = N.n.toNat by omega]
    exact List.mem_singleton.2 rfl
  rw [seek_all h _ hm] at hf
  cases hf
theorem impl_FewestFixed_ok {G : GH} {N : Gra} {A B : Option Addr} {c d : Nat} {xs : List Int} {own value budget : Int} (h : T3S G A c N.edges) (hf : IntS G B d xs) (hl : N.edges.length < 2 ^ 40) (hl' : xs.length < 2 ^ 40) {K : Value → GH → Prop}
    (hk : LI (fewV N xs own value budget) K G) : GC Try.prog 51 [graV N A c, .slice B xs.length d, .int .i64 own, .int .i64 value, .int .i64 budget] G K := by
  refine GC_drop (c_impl_FewestFixed_i (by simp) ?_)
  unfold graV graC
  simp (maxSteps := 300000) (disch := omega) only [gs, gs2, gs3, ↓reduceIte, Nat.reduceEqDiff, Nat.mul_one, Nat.add_zero, Nat.zero_add, Nat.zero_mul, Int.toNat_natCast, Int.reduceToNat, Nat.reduceMul, Nat.reduceAdd, decide_true, decide_false, Bool.not_true, Bool.not_false, true_and, and_true, List.map_cons, List.map_nil, List.nil_append, List.cons_append, List.append_nil, Option.map_some, Option.bind_some, List.getElem?_cons_zero, List.getElem?_cons_succ, Bool.false_eq_true, not_true_eq_false, not_false_eq_true, List.contains_cons, List.contains_nil, Nat.reduceBEq, Bool.true_or, Bool.false_or, Bool.or_true, List.set_cons_zero, List.set_cons_succ, List.length_cons, List.length_nil, isLd, Bool.true_and, Bool.false_and, Bool.and_true, Bool.and_false]
  intro b5 hb5
  simp (maxSteps := 300000) (disch := omega) only [gs, gs2, gs3, ↓reduceIte, Nat.reduceEqDiff, Nat.mul_one, Nat.add_zero, Nat.zero_add, Nat.zero_mul, Int.toNat_natCast, Int.reduceToNat, Nat.reduceMul, Nat.reduceAdd, decide_true, decide_false, Bool.not_true, Bool.not_false, true_and, and_true, List.map_cons, List.map_nil, List.nil_append, List.cons_append, List.append_nil, Option.map_some, Option.bind_some, List.getElem?_cons_zero, List.getElem?_cons_succ, Bool.false_eq_true, not_true_eq_false, not_false_eq_true, List.contains_cons, List.contains_nil, Nat.reduceBEq, Bool.true_or, Bool.false_or, Bool.or_true, List.set_cons_zero, List.set_cons_succ, List.length_cons, List.length_nil, isLd, Bool.true_and, Bool.false_and, Bool.and_true, Bool.and_false]
  have s1 := Sub.put hb5 ⟨[.int .i64 N.n, .slice A N.edges.length c], true⟩
  have f0 : rd (put G b5 ⟨[.int .i64 N.n, .slice A N.edges.length c], true⟩) (some ⟨b5, 0, none⟩) = some (.int .i64 N.n) := rd_box _ _ _ 0 _ rfl
  have f1 : rd (put G b5 ⟨[.int .i64 N.n, .slice A N.edges.length c], true⟩) (some ⟨b5, 1, none⟩) = some (.slice A N.edges.length c) := rd_box _ _ _ 1 _ rfl
  revert s1 f0 f1
  generalize put G b5 ⟨[.int .i64 N.n, .slice A N.edges.length c], true⟩ = G1
  intro s1 f0 f1
  refine impl_stepped_ok (N := N) (fixed := []) (h.sub s1) (hf.sub s1) ⟨Nat.le_refl _, fun i hi => by simp at hi⟩ hl hl' (by simp) ?_
  simp (maxSteps := 300000) (disch := omega) only [gs, gs2, gs3, ↓reduceIte, Nat.reduceEqDiff, Nat.mul_one, Nat.add_zero, Nat.zero_add, Nat.zero_mul, Int.toNat_natCast, Int.reduceToNat, Nat.reduceMul, Nat.reduceAdd, decide_true, decide_false, Bool.not_true, Bool.not_false, true_and, and_true, List.map_cons, List.map_nil, List.nil_append, List.cons_append, List.append_nil, Option.map_some, Option.bind_some, List.getElem?_cons_zero, List.getElem?_cons_succ, Bool.false_eq_true, not_true_eq_false, not_false_eq_true, List.contains_cons, List.contains_nil, Nat.reduceBEq, Bool.true_or, Bool.false_or, Bool.or_true, List.set_cons_zero, List.set_cons_succ, List.length_cons, List.length_nil, isLd, Bool.true_and, Bool.false_and, Bool.and_true, Bool.and_false]
  by_cases g0 : stepC N xs own [] = 0
  rotate_left
  · simp (maxSteps := 300000) (disch := omega) only [gs, gs2, gs3, ↓reduceIte, Nat.reduceEqDiff, Nat.mul_one, Nat.add_zero, Nat.zero_add, Nat.zero_mul, Int.toNat_natCast, Int.reduceToNat, Nat.reduceMul, Nat.reduceAdd, decide_true, decide_false, Bool.not_true, Bool.not_false, true_and, and_true, List.map_cons, List.map_nil, List.nil_append, List.cons_append, List.append_nil, Option.map_some, Option.bind_some, List.getElem?_cons_zero, List.getElem?_cons_succ, Bool.false_eq_true, not_true_eq_false, not_false_eq_true, List.contains_cons, List.contains_nil, Nat.reduceBEq, Bool.true_or, Bool.false_or, Bool.or_true, List.set_cons_zero, List.set_cons_succ, List.length_cons, List.length_nil, isLd, Bool.true_and, Bool.false_and, Bool.and_true, Bool.and_false, eq_false g0]
    exact ⟨G, s1, hk.err (by unfold fewV; rw [if_pos g0])⟩
  simp (maxSteps := 300000) (disch := omega) only [gs, gs2, gs3, ↓reduceIte, Nat.reduceEqDiff, Nat.mul_one, Nat.add_zero, Nat.zero_add, Nat.zero_mul, Int.toNat_natCast, Int.reduceToNat, Nat.reduceMul, Nat.reduceAdd, decide_true, decide_false, Bool.not_true, Bool.not_false, true_and, and_true, List.map_cons, List.map_nil, List.nil_append, List.cons_append, List.append_nil, Option.map_some, Option.bind_some, List.getElem?_cons_zero, List.getElem?_cons_succ, Bool.false_eq_true, not_true_eq_false, not_false_eq_true, List.contains_cons, List.contains_nil, Nat.reduceBEq, Bool.true_or, Bool.false_or, Bool.or_true, List.set_cons_zero, List.set_cons_succ, List.length_cons, List.length_nil, isLd, Bool.true_and, Bool.false_and, Bool.and_true, Bool.and_false, eq_true g0]
  obtain ⟨⟨hn, hx⟩, ho, _⟩ := stepC_zero.1 g0
  have hn1 := hn.1
  have hx1 := hx.1
  refine impl_within_ok _ _ _ ?_
  simp (maxSteps := 300000) (disch := omega) only [gs, gs2, gs3, ↓reduceIte, Nat.reduceEqDiff, Nat.mul_one, Nat.add_zero, Nat.zero_add, Nat.zero_mul, Int.toNat_natCast, Int.reduceToNat, Nat.reduceMul, Nat.reduceAdd, decide_true, decide_false, Bool.not_true, Bool.not_false, true_and, and_true, List.map_cons, List.map_nil, List.nil_append, List.cons_append, List.append_nil, Option.map_some, Option.bind_some, List.getElem?_cons_zero, List.getElem?_cons_succ, Bool.false_eq_true, not_true_eq_false, not_false_eq_true, List.contains_cons, List.contains_nil, Nat.reduceBEq, Bool.true_or, Bool.false_or, Bool.or_true, List.set_cons_zero, List.set_cons_succ, List.length_cons, List.length_nil, isLd, Bool.true_and, Bool.false_and, Bool.and_true, Bool.and_false]
  by_cases g1 : -1000000 ≤ value ∧ value ≤ 1000000
  rotate_left
  · rw [decide_eq_false g1]
    simp (maxSteps := 300000) (disch := omega) only [gs, gs2, gs3, ↓reduceIte, Nat.reduceEqDiff, Nat.mul_one, Nat.add_zero, Nat.zero_add, Nat.zero_mul, Int.toNat_natCast, Int.reduceToNat, Nat.reduceMul, Nat.reduceAdd, decide_true, decide_false, Bool.not_true, Bool.not_false, true_and, and_true, List.map_cons, List.map_nil, List.nil_append, List.cons_append, List.append_nil, Option.map_some, Option.bind_some, List.getElem?_cons_zero, List.getElem?_cons_succ, Bool.false_eq_true, not_true_eq_false, not_false_eq_true, List.contains_cons, List.contains_nil, Nat.reduceBEq, Bool.true_or, Bool.false_or, Bool.or_true, List.set_cons_zero, List.set_cons_succ, List.length_cons, List.length_nil, isLd, Bool.true_and, Bool.false_and, Bool.and_true, Bool.and_false]
    exact ⟨G, s1, hk.err (by unfold fewV; rw [if_neg (by simp [g0]), if_pos (fun x => g1 x.1)])⟩
  rw [decide_eq_true g1]
  simp (maxSteps := 300000) (disch := omega) only [gs, gs2, gs3, ↓reduceIte, Nat.reduceEqDiff, Nat.mul_one, Nat.add_zero, Nat.zero_add, Nat.zero_mul, Int.toNat_natCast, Int.reduceToNat, Nat.reduceMul, Nat.reduceAdd, decide_true, decide_false, Bool.not_true, Bool.not_false, true_and, and_true, List.map_cons, List.map_nil, List.nil_append, List.cons_append, List.append_nil, Option.map_some, Option.bind_some, List.getElem?_cons_zero, List.getElem?_cons_succ, Bool.false_eq_true, not_true_eq_false, not_false_eq_true, List.contains_cons, List.contains_nil, Nat.reduceBEq, Bool.true_or, Bool.false_or, Bool.or_true, List.set_cons_zero, List.set_cons_succ, List.length_cons, List.length_nil, isLd, Bool.true_and, Bool.false_and, Bool.and_true, Bool.and_false]
  refine impl_isBudget_ok _ ?_
  simp (maxSteps := 300000) (disch := omega) only [gs, gs2, gs3, ↓reduceIte, Nat.reduceEqDiff, Nat.mul_one, Nat.add_zero, Nat.zero_add, Nat.zero_mul, Int.toNat_natCast, Int.reduceToNat, Nat.reduceMul, Nat.reduceAdd, decide_true, decide_false, Bool.not_true, Bool.not_false, true_and, and_true, List.map_cons, List.map_nil, List.nil_append, List.cons_append, List.append_nil, Option.map_some, Option.bind_some, List.getElem?_cons_zero, List.getElem?_cons_succ, Bool.false_eq_true, not_true_eq_false, not_false_eq_true, List.contains_cons, List.contains_nil, Nat.reduceBEq, Bool.true_or, Bool.false_or, Bool.or_true, List.set_cons_zero, List.set_cons_succ, List.length_cons, List.length_nil, isLd, Bool.true_and, Bool.false_and, Bool.and_true, Bool.and_false]
  by_cases g2 : 1 ≤ budget ∧ budget ≤ 20000
  rotate_left
  · rw [decide_eq_false g2]
    simp (maxSteps := 300000) (disch := omega) only [gs, gs2, gs3, ↓reduceIte, Nat.reduceEqDiff, Nat.mul_one, Nat.add_zero, Nat.zero_add, Nat.zero_mul, Int.toNat_natCast, Int.reduceToNat, Nat.reduceMul, Nat.reduceAdd, decide_true, decide_false, Bool.not_true, Bool.not_false, true_and, and_true, List.map_cons, List.map_nil, List.nil_append, List.cons_append, List.append_nil, Option.map_some, Option.bind_some, List.getElem?_cons_zero, List.getElem?_cons_succ, Bool.false_eq_true, not_true_eq_false, not_false_eq_true, List.contains_cons, List.contains_nil, Nat.reduceBEq, Bool.true_or, Bool.false_or, Bool.or_true, List.set_cons_zero, List.set_cons_succ, List.length_cons, List.length_nil, isLd, Bool.true_and, Bool.false_and, Bool.and_true, Bool.and_false]
    exact ⟨G, s1, hk.err (by unfold fewV; rw [if_neg (by simp [g0]), if_pos (fun x => g2 x.2)])⟩
  rw [decide_eq_true g2]
  have hV : fewV N xs own value budget = match seek (leadB N own value xs) budget.toNat (allFrom N.n.toNat 0) 0 with
    | (some s, _, _) => (s, 0)
    | _ => ([], 5) := by unfold fewV; rw [if_neg (by simp [g0]), if_neg (fun x => x ⟨g1, g2⟩)]
  have hfail : ∀ k, seek (leadB N own value xs) budget.toNat (allFrom N.n.toNat 0) 0 = (none, k, false) → False := fun k => few_done hn hx
  simp (maxSteps := 300000) (disch := omega) only [gs, gs2, gs3, ↓reduceIte, Nat.reduceEqDiff, Nat.mul_one, Nat.add_zero, Nat.zero_add, Nat.zero_mul, Int.toNat_natCast, Int.reduceToNat, Nat.reduceMul, Nat.reduceAdd, decide_true, decide_false, Bool.not_true, Bool.not_false, true_and, and_true, List.map_cons, List.map_nil, List.nil_append, List.cons_append, List.append_nil, Option.map_some, Option.bind_some, List.getElem?_cons_zero, List.getElem?_cons_succ, Bool.false_eq_true, not_true_eq_false, not_false_eq_true, List.contains_cons, List.contains_nil, Nat.reduceBEq, Bool.true_or, Bool.false_or, Bool.or_true, List.set_cons_zero, List.set_cons_succ, List.length_cons, List.length_nil, isLd, Bool.true_and, Bool.false_and, Bool.and_true, Bool.and_false, show bldV [.int .i64 0, .bool false] [(0, 1, .int .i64 budget)] = some [.int .i64 budget, .bool false] from rfl]
  intro b13 hb13
  simp (maxSteps := 300000) (disch := omega) only [gs, gs2, gs3, ↓reduceIte, Nat.reduceEqDiff, Nat.mul_one, Nat.add_zero, Nat.zero_add, Nat.zero_mul, Int.toNat_natCast, Int.reduceToNat, Nat.reduceMul, Nat.reduceAdd, decide_true, decide_false, Bool.not_true, Bool.not_false, true_and, and_true, List.map_cons, List.map_nil, List.nil_append, List.cons_append, List.append_nil, Option.map_some, Option.bind_some, List.getElem?_cons_zero, List.getElem?_cons_succ, Bool.false_eq_true, not_true_eq_false, not_false_eq_true, List.contains_cons, List.contains_nil, Nat.reduceBEq, Bool.true_or, Bool.false_or, Bool.or_true, List.set_cons_zero, List.set_cons_succ, List.length_cons, List.length_nil, isLd, Bool.true_and, Bool.false_and, Bool.and_true, Bool.and_false]
  refine st_fresh (vs := [.int .i64 budget, .bool false]) rfl rfl rfl (by intro v hv; simp at hv; rcases hv with rfl | rfl <;> rfl) ?_
  have s2 := Sub.put hb13 ⟨[.int .i64 budget, .bool false], true⟩
  have hbc := put_same G1 b13 ⟨[.int .i64 budget, .bool false], true⟩
  simp (maxSteps := 300000) (disch := omega) only [gs, gs2, gs3, ↓reduceIte, Nat.reduceEqDiff, Nat.mul_one, Nat.add_zero, Nat.zero_add, Nat.zero_mul, Int.toNat_natCast, Int.reduceToNat, Nat.reduceMul, Nat.reduceAdd, decide_true, decide_false, Bool.not_true, Bool.not_false, true_and, and_true, List.map_cons, List.map_nil, List.nil_append, List.cons_append, List.append_nil, Option.map_some, Option.bind_some, List.getElem?_cons_zero, List.getElem?_cons_succ, Bool.false_eq_true, not_true_eq_false, not_false_eq_true, List.contains_cons, List.contains_nil, Nat.reduceBEq, Bool.true_or, Bool.false_or, Bool.or_true, List.set_cons_zero, List.set_cons_succ, List.length_cons, List.length_nil, isLd, Bool.true_and, Bool.false_and, Bool.and_true, Bool.and_false, rd_sub s2 f0]
  refine gLoop_intro (fun m T G' => ∃ (k : Nat) (kk : Nat), T 1 = .slice B xs.length d ∧ T 2 = .int .i64 own ∧ T 3 = .int .i64 value ∧ T 5 = .pointer (some ⟨b5, 0, none⟩) ∧ T 13 = .pointer (some ⟨b13, 0, none⟩) ∧ T 36 = .int .i64 (N.n + 1) ∧ T 37 = .int .i64 k ∧ m + k = N.n.toNat + 1 ∧ k ≤ N.n.toNat + 1 ∧
      Sub G1 G' ∧ G' b13 = some ⟨[.int .i64 (budget - kk), .bool false], true⟩ ∧ kk ≤ budget.toNat ∧ seek (leadB N own value xs) budget.toNat (allFrom N.n.toNat 0) 0 = seek (leadB N own value xs) budget.toNat (allFrom N.n.toNat k) kk)
    (N.n.toNat + 1) ⟨0, 0, by simp (maxSteps := 300000) (disch := omega) only [gs, gs2, gs3, ↓reduceIte, Nat.reduceEqDiff, Nat.mul_one, Nat.add_zero, Nat.zero_add, Nat.zero_mul, Int.toNat_natCast, Int.reduceToNat, Nat.reduceMul, Nat.reduceAdd, decide_true, decide_false, Bool.not_true, Bool.not_false, true_and, and_true, List.map_cons, List.map_nil, List.nil_append, List.cons_append, List.append_nil, Option.map_some, Option.bind_some, List.getElem?_cons_zero, List.getElem?_cons_succ, Bool.false_eq_true, not_true_eq_false, not_false_eq_true, List.contains_cons, List.contains_nil, Nat.reduceBEq, Bool.true_or, Bool.false_or, Bool.or_true, List.set_cons_zero, List.set_cons_succ, List.length_cons, List.length_nil, isLd, Bool.true_and, Bool.false_and, Bool.and_true, Bool.and_false], by simp (maxSteps := 300000) (disch := omega) only [gs, gs2, gs3, ↓reduceIte, Nat.reduceEqDiff, Nat.mul_one, Nat.add_zero, Nat.zero_add, Nat.zero_mul, Int.toNat_natCast, Int.reduceToNat, Nat.reduceMul, Nat.reduceAdd, decide_true, decide_false, Bool.not_true, Bool.not_false, true_and, and_true, List.map_cons, List.map_nil, List.nil_append, List.cons_append, List.append_nil, Option.map_some, Option.bind_some, List.getElem?_cons_zero, List.getElem?_cons_succ, Bool.false_eq_true, not_true_eq_false, not_false_eq_true, List.contains_cons, List.contains_nil, Nat.reduceBEq, Bool.true_or, Bool.false_or, Bool.or_true, List.set_cons_zero, List.set_cons_succ, List.length_cons, List.length_nil, isLd, Bool.true_and, Bool.false_and, Bool.and_true, Bool.and_false], by simp (maxSteps := 300000) (disch := omega) only [gs, gs2, gs3, ↓reduceIte, Nat.reduceEqDiff, Nat.mul_one, Nat.add_zero, Nat.zero_add, Nat.zero_mul, Int.toNat_natCast, Int.reduceToNat, Nat.reduceMul, Nat.reduceAdd, decide_true, decide_false, Bool.not_true, Bool.not_false, true_and, and_true, List.map_cons, List.map_nil, List.nil_append, List.cons_append, List.append_nil, Option.map_some, Option.bind_some, List.getElem?_cons_zero, List.getElem?_cons_succ, Bool.false_eq_true, not_true_eq_false, not_false_eq_true, List.contains_cons, List.contains_nil, Nat.reduceBEq, Bool.true_or, Bool.false_or, Bool.or_true, List.set_cons_zero, List.set_cons_succ, List.length_cons, List.length_nil, isLd, Bool.true_and, Bool.false_and, Bool.and_true, Bool.and_false], by simp (maxSteps := 300000) (disch := omega) only [gs, gs2, gs3, ↓reduceIte, Nat.reduceEqDiff, Nat.mul_one, Nat.add_zero, Nat.zero_add, Nat.zero_mul, Int.toNat_natCast, Int.reduceToNat, Nat.reduceMul, Nat.reduceAdd, decide_true, decide_false, Bool.not_true, Bool.not_false, true_and, and_true, List.map_cons, List.map_nil, List.nil_append, List.cons_append, List.append_nil, Option.map_some, Option.bind_some, List.getElem?_cons_zero, List.getElem?_cons_succ, Bool.false_eq_true, not_true_eq_false, not_false_eq_true, List.contains_cons, List.contains_nil, Nat.reduceBEq, Bool.true_or, Bool.false_or, Bool.or_true, List.set_cons_zero, List.set_cons_succ, List.length_cons, List.length_nil, isLd, Bool.true_and, Bool.false_and, Bool.and_true, Bool.and_false], by simp (maxSteps := 300000) (disch := omega) only [gs, gs2, gs3, ↓reduceIte, Nat.reduceEqDiff, Nat.mul_one, Nat.add_zero, Nat.zero_add, Nat.zero_mul, Int.toNat_natCast, Int.reduceToNat, Nat.reduceMul, Nat.reduceAdd, decide_true, decide_false, Bool.not_true, Bool.not_false, true_and, and_true, List.map_cons, List.map_nil, List.nil_append, List.cons_append, List.append_nil, Option.map_some, Option.bind_some, List.getElem?_cons_zero, List.getElem?_cons_succ, Bool.false_eq_true, not_true_eq_false, not_false_eq_true, List.contains_cons, List.contains_nil, Nat.reduceBEq, Bool.true_or, Bool.false_or, Bool.or_true, List.set_cons_zero, List.set_cons_succ, List.length_cons, List.length_nil, isLd, Bool.true_and, Bool.false_and, Bool.and_true, Bool.and_false], by simp (maxSteps := 300000) (disch := omega) only [gs, gs2, gs3, ↓reduceIte, Nat.reduceEqDiff, Nat.mul_one, Nat.add_zero, Nat.zero_add, Nat.zero_mul, Int.toNat_natCast, Int.reduceToNat, Nat.reduceMul, Nat.reduceAdd, decide_true, decide_false, Bool.not_true, Bool.not_false, true_and, and_true, List.map_cons, List.map_nil, List.nil_append, List.cons_append, List.append_nil, Option.map_some, Option.bind_some, List.getElem?_cons_zero, List.getElem?_cons_succ, Bool.false_eq_true, not_true_eq_false, not_false_eq_true, List.contains_cons, List.contains_nil, Nat.reduceBEq, Bool.true_or, Bool.false_or, Bool.or_true, List.set_cons_zero, List.set_cons_succ, List.length_cons, List.length_nil, isLd, Bool.true_and, Bool.false_and, Bool.and_true, Bool.and_false], by simp (maxSteps := 300000) (disch := omega) only [gs, gs2, gs3, ↓reduceIte, Nat.reduceEqDiff, Nat.mul_one, Nat.add_zero, Nat.zero_add, Nat.zero_mul, Int.toNat_natCast, Int.reduceToNat, Nat.reduceMul, Nat.reduceAdd, decide_true, decide_false, Bool.not_true, Bool.not_false, true_and, and_true, List.map_cons, List.map_nil, List.nil_append, List.cons_append, List.append_nil, Option.map_some, Option.bind_some, List.getElem?_cons_zero, List.getElem?_cons_succ, Bool.false_eq_true, not_true_eq_false, not_false_eq_true, List.contains_cons, List.contains_nil, Nat.reduceBEq, Bool.true_or, Bool.false_or, Bool.or_true, List.set_cons_zero, List.set_cons_succ, List.length_cons, List.length_nil, isLd, Bool.true_and, Bool.false_and, Bool.and_true, Bool.and_false] <;> rfl, by omega, by omega, s2, by rw [hbc]; simp, by omega, rfl⟩ ?_
  clear s2 hbc
  rintro m T G' ⟨k, kk, e1, e2, e3, e5, e13, e36, e37, hm, hkm, s, hbc, hkk, hsc⟩
  simp (maxSteps := 300000) (disch := omega) only [gs, gs2, gs3, ↓reduceIte, Nat.reduceEqDiff, Nat.mul_one, Nat.add_zero, Nat.zero_add, Nat.zero_mul, Int.toNat_natCast, Int.reduceToNat, Nat.reduceMul, Nat.reduceAdd, decide_true, decide_false, Bool.not_true, Bool.not_false, true_and, and_true, List.map_cons, List.map_nil, List.nil_append, List.cons_append, List.append_nil, Option.map_some, Option.bind_some, List.getElem?_cons_zero, List.getElem?_cons_succ, Bool.false_eq_true, not_true_eq_false, not_false_eq_true, List.contains_cons, List.contains_nil, Nat.reduceBEq, Bool.true_or, Bool.false_or, Bool.or_true, List.set_cons_zero, List.set_cons_succ, List.length_cons, List.length_nil, isLd, Bool.true_and, Bool.false_and, Bool.and_true, Bool.and_false, e1, e2, e3, e5, e13, e36, e37]
  by_cases hlt : (k : Int) < N.n + 1
  rotate_left
  · simp (maxSteps := 300000) (disch := omega) only [gs, gs2, gs3, ↓reduceIte, Nat.reduceEqDiff, Nat.mul_one, Nat.add_zero, Nat.zero_add, Nat.zero_mul, Int.toNat_natCast, Int.reduceToNat, Nat.reduceMul, Nat.reduceAdd, decide_true, decide_false, Bool.not_true, Bool.not_false, true_and, and_true, List.map_cons, List.map_nil, List.nil_append, List.cons_append, List.append_nil, Option.map_some, Option.bind_some, List.getElem?_cons_zero, List.getElem?_cons_succ, Bool.false_eq_true, not_true_eq_false, not_false_eq_true, List.contains_cons, List.contains_nil, Nat.reduceBEq, Bool.true_or, Bool.false_or, Bool.or_true, List.set_cons_zero, List.set_cons_succ, List.length_cons, List.length_nil, isLd, Bool.true_and, Bool.false_and, Bool.and_true, Bool.and_false, e1, e2, e3, e5, e13, e36, e37, hlt]
    exfalso
    rw [allFrom_end (n := N.n.toNat) (m := k) (by omega)] at hsc
    exact hfail _ hsc
  simp (maxSteps := 300000) (disch := omega) only [gs, gs2, gs3, ↓reduceIte, Nat.reduceEqDiff, Nat.mul_one, Nat.add_zero, Nat.zero_add, Nat.zero_mul, Int.toNat_natCast, Int.reduceToNat, Nat.reduceMul, Nat.reduceAdd, decide_true, decide_false, Bool.not_true, Bool.not_false, true_and, and_true, List.map_cons, List.map_nil, List.nil_append, List.cons_append, List.append_nil, Option.map_some, Option.bind_some, List.getElem?_cons_zero, List.getElem?_cons_succ, Bool.false_eq_true, not_true_eq_false, not_false_eq_true, List.contains_cons, List.contains_nil, Nat.reduceBEq, Bool.true_or, Bool.false_or, Bool.or_true, List.set_cons_zero, List.set_cons_succ, List.length_cons, List.length_nil, isLd, Bool.true_and, Bool.false_and, Bool.and_true, Bool.and_false, e1, e2, e3, e5, e13, e36, e37, hlt]
  refine impl_firstChoice_ok ⟨by omega, by omega⟩ fun G2 A2 c2 hN => ?_
  simp (maxSteps := 300000) (disch := omega) only [gs, gs2, gs3, ↓reduceIte, Nat.reduceEqDiff, Nat.mul_one, Nat.add_zero, Nat.zero_add, Nat.zero_mul, Int.toNat_natCast, Int.reduceToNat, Nat.reduceMul, Nat.reduceAdd, decide_true, decide_false, Bool.not_true, Bool.not_false, true_and, and_true, List.map_cons, List.map_nil, List.nil_append, List.cons_append, List.append_nil, Option.map_some, Option.bind_some, List.getElem?_cons_zero, List.getElem?_cons_succ, Bool.false_eq_true, not_true_eq_false, not_false_eq_true, List.contains_cons, List.contains_nil, Nat.reduceBEq, Bool.true_or, Bool.false_or, Bool.or_true, List.set_cons_zero, List.set_cons_succ, List.length_cons, List.length_nil, isLd, Bool.true_and, Bool.false_and, Bool.and_true, Bool.and_false, e1, e2, e3, e5, e13, e36, e37]
  have hrng : iota k = rng 0 k := by unfold iota rng; rw [List.range_eq_range']
  rw [Int.toNat_natCast, hrng] at hN
  obtain ⟨r0, hr0⟩ := chs_head (n := N.n.toNat) (m := k) (by omega)
  have hch := chs_ch N.n.toNat k
  have hmem := chs_mem N.n.toNat k 0
  have hlen := chs_len N.n.toNat k 0
  rw [allFrom_step (n := N.n.toNat) (m := k) (by omega)] at hsc
  generalize chs N.n.toNat k 0 = L at *
  refine gLoop_intro (fun m T G' => ∃ (L : List (List Int)) (kk : Nat), m = L.length ∧ T 1 = .slice B xs.length d ∧ T 2 = .int .i64 own ∧ T 3 = .int .i64 value ∧ T 5 = .pointer (some ⟨b5, 0, none⟩) ∧ T 13 = .pointer (some ⟨b13, 0, none⟩) ∧ T 36 = .int .i64 (N.n + 1) ∧ T 37 = .int .i64 k ∧ T 16 = .bool (decide (L ≠ [])) ∧
      (∀ t post, L = t :: post → ∃ A' c', T 15 = .slice A' k c' ∧ Own G' A' c' (t.map I64) 1 k ∧ Off G1 A' ∧ ∀ a, A' = some a → a.block ≠ b13) ∧ Ch N.n.toNat L none ∧ (∀ t ∈ L, t.length = k) ∧ (∀ t ∈ L, ∀ x ∈ t, ((0 : Nat) : Int) ≤ x ∧ x < N.n.toNat) ∧
      Sub G1 G' ∧ G' b13 = some ⟨[.int .i64 (budget - kk), .bool false], true⟩ ∧ kk ≤ budget.toNat ∧ seek (leadB N own value xs) budget.toNat (allFrom N.n.toNat 0) 0 = seek (leadB N own value xs) budget.toNat (L ++ allFrom N.n.toNat (k + 1)) kk)
    L.length ⟨L, kk, rfl, by simp (maxSteps := 300000) (disch := omega) only [gs, gs2, gs3, ↓reduceIte, Nat.reduceEqDiff, Nat.mul_one, Nat.add_zero, Nat.zero_add, Nat.zero_mul, Int.toNat_natCast, Int.reduceToNat, Nat.reduceMul, Nat.reduceAdd, decide_true, decide_false, Bool.not_true, Bool.not_false, true_and, and_true, List.map_cons, List.map_nil, List.nil_append, List.cons_append, List.append_nil, Option.map_some, Option.bind_some, List.getElem?_cons_zero, List.getElem?_cons_succ, Bool.false_eq_true, not_true_eq_false, not_false_eq_true, List.contains_cons, List.contains_nil, Nat.reduceBEq, Bool.true_or, Bool.false_or, Bool.or_true, List.set_cons_zero, List.set_cons_succ, List.length_cons, List.length_nil, isLd, Bool.true_and, Bool.false_and, Bool.and_true, Bool.and_false, e1], by simp (maxSteps := 300000) (disch := omega) only [gs, gs2, gs3, ↓reduceIte, Nat.reduceEqDiff, Nat.mul_one, Nat.add_zero, Nat.zero_add, Nat.zero_mul, Int.toNat_natCast, Int.reduceToNat, Nat.reduceMul, Nat.reduceAdd, decide_true, decide_false, Bool.not_true, Bool.not_false, true_and, and_true, List.map_cons, List.map_nil, List.nil_append, List.cons_append, List.append_nil, Option.map_some, Option.bind_some, List.getElem?_cons_zero, List.getElem?_cons_succ, Bool.false_eq_true, not_true_eq_false, not_false_eq_true, List.contains_cons, List.contains_nil, Nat.reduceBEq, Bool.true_or, Bool.false_or, Bool.or_true, List.set_cons_zero, List.set_cons_succ, List.length_cons, List.length_nil, isLd, Bool.true_and, Bool.false_and, Bool.and_true, Bool.and_false, e2], by simp (maxSteps := 300000) (disch := omega) only [gs, gs2, gs3, ↓reduceIte, Nat.reduceEqDiff, Nat.mul_one, Nat.add_zero, Nat.zero_add, Nat.zero_mul, Int.toNat_natCast, Int.reduceToNat, Nat.reduceMul, Nat.reduceAdd, decide_true, decide_false, Bool.not_true, Bool.not_false, true_and, and_true, List.map_cons, List.map_nil, List.nil_append, List.cons_append, List.append_nil, Option.map_some, Option.bind_some, List.getElem?_cons_zero, List.getElem?_cons_succ, Bool.false_eq_true, not_true_eq_false, not_false_eq_true, List.contains_cons, List.contains_nil, Nat.reduceBEq, Bool.true_or, Bool.false_or, Bool.or_true, List.set_cons_zero, List.set_cons_succ, List.length_cons, List.length_nil, isLd, Bool.true_and, Bool.false_and, Bool.and_true, Bool.and_false, e3], by simp (maxSteps := 300000) (disch := omega) only [gs, gs2, gs3, ↓reduceIte, Nat.reduceEqDiff, Nat.mul_one, Nat.add_zero, Nat.zero_add, Nat.zero_mul, Int.toNat_natCast, Int.reduceToNat, Nat.reduceMul, Nat.reduceAdd, decide_true, decide_false, Bool.not_true, Bool.not_false, true_and, and_true, List.map_cons, List.map_nil, List.nil_append, List.cons_append, List.append_nil, Option.map_some, Option.bind_some, List.getElem?_cons_zero, List.getElem?_cons_succ, Bool.false_eq_true, not_true_eq_false, not_false_eq_true, List.contains_cons, List.contains_nil, Nat.reduceBEq, Bool.true_or, Bool.false_or, Bool.or_true, List.set_cons_zero, List.set_cons_succ, List.length_cons, List.length_nil, isLd, Bool.true_and, Bool.false_and, Bool.and_true, Bool.and_false, e5], by simp (maxSteps := 300000) (disch := omega) only [gs, gs2, gs3, ↓reduceIte, Nat.reduceEqDiff, Nat.mul_one, Nat.add_zero, Nat.zero_add, Nat.zero_mul, Int.toNat_natCast, Int.reduceToNat, Nat.reduceMul, Nat.reduceAdd, decide_true, decide_false, Bool.not_true, Bool.not_false, true_and, and_true, List.map_cons, List.map_nil, List.nil_append, List.cons_append, List.append_nil, Option.map_some, Option.bind_some, List.getElem?_cons_zero, List.getElem?_cons_succ, Bool.false_eq_true, not_true_eq_false, not_false_eq_true, List.contains_cons, List.contains_nil, Nat.reduceBEq, Bool.true_or, Bool.false_or, Bool.or_true, List.set_cons_zero, List.set_cons_succ, List.length_cons, List.length_nil, isLd, Bool.true_and, Bool.false_and, Bool.and_true, Bool.and_false, e13], by simp (maxSteps := 300000) (disch := omega) only [gs, gs2, gs3, ↓reduceIte, Nat.reduceEqDiff, Nat.mul_one, Nat.add_zero, Nat.zero_add, Nat.zero_mul, Int.toNat_natCast, Int.reduceToNat, Nat.reduceMul, Nat.reduceAdd, decide_true, decide_false, Bool.not_true, Bool.not_false, true_and, and_true, List.map_cons, List.map_nil, List.nil_append, List.cons_append, List.append_nil, Option.map_some, Option.bind_some, List.getElem?_cons_zero, List.getElem?_cons_succ, Bool.false_eq_true, not_true_eq_false, not_false_eq_true, List.contains_cons, List.contains_nil, Nat.reduceBEq, Bool.true_or, Bool.false_or, Bool.or_true, List.set_cons_zero, List.set_cons_succ, List.length_cons, List.length_nil, isLd, Bool.true_and, Bool.false_and, Bool.and_true, Bool.and_false, e36], by simp (maxSteps := 300000) (disch := omega) only [gs, gs2, gs3, ↓reduceIte, Nat.reduceEqDiff, Nat.mul_one, Nat.add_zero, Nat.zero_add, Nat.zero_mul, Int.toNat_natCast, Int.reduceToNat, Nat.reduceMul, Nat.reduceAdd, decide_true, decide_false, Bool.not_true, Bool.not_false, true_and, and_true, List.map_cons, List.map_nil, List.nil_append, List.cons_append, List.append_nil, Option.map_some, Option.bind_some, List.getElem?_cons_zero, List.getElem?_cons_succ, Bool.false_eq_true, not_true_eq_false, not_false_eq_true, List.contains_cons, List.contains_nil, Nat.reduceBEq, Bool.true_or, Bool.false_or, Bool.or_true, List.set_cons_zero, List.set_cons_succ, List.length_cons, List.length_nil, isLd, Bool.true_and, Bool.false_and, Bool.and_true, Bool.and_false, e37], by simp (maxSteps := 300000) (disch := omega) only [gs, gs2, gs3, ↓reduceIte, Nat.reduceEqDiff, Nat.mul_one, Nat.add_zero, Nat.zero_add, Nat.zero_mul, Int.toNat_natCast, Int.reduceToNat, Nat.reduceMul, Nat.reduceAdd, decide_true, decide_false, Bool.not_true, Bool.not_false, true_and, and_true, List.map_cons, List.map_nil, List.nil_append, List.cons_append, List.append_nil, Option.map_some, Option.bind_some, List.getElem?_cons_zero, List.getElem?_cons_succ, Bool.false_eq_true, not_true_eq_false, not_false_eq_true, List.contains_cons, List.contains_nil, Nat.reduceBEq, Bool.true_or, Bool.false_or, Bool.or_true, List.set_cons_zero, List.set_cons_succ, List.length_cons, List.length_nil, isLd, Bool.true_and, Bool.false_and, Bool.and_true, Bool.and_false]; rw [hr0]; simp, fun t post ht => ?_, hch, hlen, hmem, s.trans hN.sub, hN.sub _ _ hbc, hkk, hsc⟩ ?_
  · rw [hr0] at ht
    cases ht
    exact ⟨A2, c2, by simp (maxSteps := 300000) (disch := omega) only [gs, gs2, gs3, ↓reduceIte, Nat.reduceEqDiff, Nat.mul_one, Nat.add_zero, Nat.zero_add, Nat.zero_mul, Int.toNat_natCast, Int.reduceToNat, Nat.reduceMul, Nat.reduceAdd, decide_true, decide_false, Bool.not_true, Bool.not_false, true_and, and_true, List.map_cons, List.map_nil, List.nil_append, List.cons_append, List.append_nil, Option.map_some, Option.bind_some, List.getElem?_cons_zero, List.getElem?_cons_succ, Bool.false_eq_true, not_true_eq_false, not_false_eq_true, List.contains_cons, List.contains_nil, Nat.reduceBEq, Bool.true_or, Bool.false_or, Bool.or_true, List.set_cons_zero, List.set_cons_succ, List.length_cons, List.length_nil, isLd, Bool.true_and, Bool.false_and, Bool.and_true, Bool.and_false] <;> rw [Int.toNat_natCast], hN.fresh, hN.offs s, hN.nb hbc⟩
  clear hsc hr0 hch hmem hlen hN hbc s hkk kk e1 e2 e3 e5 e13 e36 e37 L r0
  rintro m T G' ⟨L, kk, rfl, e1, e2, e3, e5, e13, e36, e37, e16, hT, hch, hlen, hmem, s, hbc, hkk, hsc⟩
  simp (maxSteps := 300000) (disch := omega) only [gs, gs2, gs3, ↓reduceIte, Nat.reduceEqDiff, Nat.mul_one, Nat.add_zero, Nat.zero_add, Nat.zero_mul, Int.toNat_natCast, Int.reduceToNat, Nat.reduceMul, Nat.reduceAdd, decide_true, decide_false, Bool.not_true, Bool.not_false, true_and, and_true, List.map_cons, List.map_nil, List.nil_append, List.cons_append, List.append_nil, Option.map_some, Option.bind_some, List.getElem?_cons_zero, List.getElem?_cons_succ, Bool.false_eq_true, not_true_eq_false, not_false_eq_true, List.contains_cons, List.contains_nil, Nat.reduceBEq, Bool.true_or, Bool.false_or, Bool.or_true, List.set_cons_zero, List.set_cons_succ, List.length_cons, List.length_nil, isLd, Bool.true_and, Bool.false_and, Bool.and_true, Bool.and_false, e1, e2, e3, e5, e13, e36, e37, e16]
  cases L with
  | nil =>
    simp (maxSteps := 300000) (disch := omega) only [gs, gs2, gs3, ↓reduceIte, Nat.reduceEqDiff, Nat.mul_one, Nat.add_zero, Nat.zero_add, Nat.zero_mul, Int.toNat_natCast, Int.reduceToNat, Nat.reduceMul, Nat.reduceAdd, decide_true, decide_false, Bool.not_true, Bool.not_false, true_and, and_true, List.map_cons, List.map_nil, List.nil_append, List.cons_append, List.append_nil, Option.map_some, Option.bind_some, List.getElem?_cons_zero, List.getElem?_cons_succ, Bool.false_eq_true, not_true_eq_false, not_false_eq_true, List.contains_cons, List.contains_nil, Nat.reduceBEq, Bool.true_or, Bool.false_or, Bool.or_true, List.set_cons_zero, List.set_cons_succ, List.length_cons, List.length_nil, isLd, Bool.true_and, Bool.false_and, Bool.and_true, Bool.and_false, e1, e2, e3, e5, e13, e36, e37, show (decide (([] : List (List Int)) ≠ [])) = false from rfl]
    exact ⟨m - 1, by omega, G', Sub.refl _, k + 1, kk, rfl, by omega, by omega, s, hbc, hkk, by simpa using hsc⟩
  | cons t post =>
    obtain ⟨A', c', e15, hO, hOf, hda⟩ := hT t post rfl
    have hlt := hlen t List.mem_cons_self
    have hbt := hmem t List.mem_cons_self
    clear hT
    simp (maxSteps := 300000) (disch := omega) only [gs, gs2, gs3, ↓reduceIte, Nat.reduceEqDiff, Nat.mul_one, Nat.add_zero, Nat.zero_add, Nat.zero_mul, Int.toNat_natCast, Int.reduceToNat, Nat.reduceMul, Nat.reduceAdd, decide_true, decide_false, Bool.not_true, Bool.not_false, true_and, and_true, List.map_cons, List.map_nil, List.nil_append, List.cons_append, List.append_nil, Option.map_some, Option.bind_some, List.getElem?_cons_zero, List.getElem?_cons_succ, Bool.false_eq_true, not_true_eq_false, not_false_eq_true, List.contains_cons, List.contains_nil, Nat.reduceBEq, Bool.true_or, Bool.false_or, Bool.or_true, List.set_cons_zero, List.set_cons_succ, List.length_cons, List.length_nil, isLd, Bool.true_and, Bool.false_and, Bool.and_true, Bool.and_false, e1, e2, e3, e5, e13, e15, e36, e37, show (decide (t :: post ≠ [])) = true from by simp]
    rw [List.cons_append, seek_cons] at hsc
    refine impl_node_ok hbc ⟨by omega, by omega⟩ (fun g3 G3 hK => ?_) (fun g3 G3 hK hb3 => ?_)
    · simp (maxSteps := 300000) (disch := omega) only [gs, gs2, gs3, ↓reduceIte, Nat.reduceEqDiff, Nat.mul_one, Nat.add_zero, Nat.zero_add, Nat.zero_mul, Int.toNat_natCast, Int.reduceToNat, Nat.reduceMul, Nat.reduceAdd, decide_true, decide_false, Bool.not_true, Bool.not_false, true_and, and_true, List.map_cons, List.map_nil, List.nil_append, List.cons_append, List.append_nil, Option.map_some, Option.bind_some, List.getElem?_cons_zero, List.getElem?_cons_succ, Bool.false_eq_true, not_true_eq_false, not_false_eq_true, List.contains_cons, List.contains_nil, Nat.reduceBEq, Bool.true_or, Bool.false_or, Bool.or_true, List.set_cons_zero, List.set_cons_succ, List.length_cons, List.length_nil, isLd, Bool.true_and, Bool.false_and, Bool.and_true, Bool.and_false, e1, e2, e3, e5, e13, e15, e36, e37]
      rw [if_pos (by omega)] at hsc
      exact ⟨G, s1.trans (sub_keep hK hb13 s), hk.err (by rw [hV, hsc])⟩
    rw [if_neg (by omega)] at hsc
    have sG := sub_keep hK hb13 s
    have hO3 := hO.keep hK hda
    have k0 := rd_sub sG f0
    have k1 := rd_sub sG f1
    simp (maxSteps := 300000) (disch := omega) only [gs, gs2, gs3, ↓reduceIte, Nat.reduceEqDiff, Nat.mul_one, Nat.add_zero, Nat.zero_add, Nat.zero_mul, Int.toNat_natCast, Int.reduceToNat, Nat.reduceMul, Nat.reduceAdd, decide_true, decide_false, Bool.not_true, Bool.not_false, true_and, and_true, List.map_cons, List.map_nil, List.nil_append, List.cons_append, List.append_nil, Option.map_some, Option.bind_some, List.getElem?_cons_zero, List.getElem?_cons_succ, Bool.false_eq_true, not_true_eq_false, not_false_eq_true, List.contains_cons, List.contains_nil, Nat.reduceBEq, Bool.true_or, Bool.false_or, Bool.or_true, List.set_cons_zero, List.set_cons_succ, List.length_cons, List.length_nil, isLd, Bool.true_and, Bool.false_and, Bool.and_true, Bool.and_false, e1, e2, e3, e5, e13, e15, e36, e37, k0, k1]
    have hI := hO3.ints' hlt.symm
    have hbd : ∀ j, j < t.length → 0 ≤ t.getD j 0 ∧ t.getD j 0 < N.n := fun j hj => by
      have := hbt (t.getD j 0) (by simp [List.getD, hj])
      omega
    rw [show Value.slice A' k c' = .slice A' t.length c' by rw [hlt]]
    refine impl_leadsTo_ok (N := N) ((h.sub s1).sub sG) ((hf.sub s1).sub sG) hI (fun j hj => by have := hbd j hj; omega) (by omega) hn hx ho g1 ?_
    by_cases hw : leadB N own value xs t = true
    · rw [hw]
      rw [if_pos hw] at hsc
      simp (maxSteps := 300000) (disch := omega) only [gs, gs2, gs3, ↓reduceIte, Nat.reduceEqDiff, Nat.mul_one, Nat.add_zero, Nat.zero_add, Nat.zero_mul, Int.toNat_natCast, Int.reduceToNat, Nat.reduceMul, Nat.reduceAdd, decide_true, decide_false, Bool.not_true, Bool.not_false, true_and, and_true, List.map_cons, List.map_nil, List.nil_append, List.cons_append, List.append_nil, Option.map_some, Option.bind_some, List.getElem?_cons_zero, List.getElem?_cons_succ, Bool.false_eq_true, not_true_eq_false, not_false_eq_true, List.contains_cons, List.contains_nil, Nat.reduceBEq, Bool.true_or, Bool.false_or, Bool.or_true, List.set_cons_zero, List.set_cons_succ, List.length_cons, List.length_nil, isLd, Bool.true_and, Bool.false_and, Bool.and_true, Bool.and_false, e1, e2, e3, e5, e13, e15, e36, e37, k0, k1]
      obtain ⟨G4, s4, hN4⟩ := hO3.new sG hOf
      obtain ⟨G5, s5, hN5⟩ := hN4.low s1
      rw [hV, hsc] at hk
      have := hk _ _ _ (hN5.cast rfl hlt.symm)
      rw [hlt] at this
      exact ⟨G5, s5.trans s4, this⟩
    · rw [if_neg hw] at hsc
      rw [show leadB N own value xs t = false by simpa using hw]
      simp (maxSteps := 300000) (disch := omega) only [gs, gs2, gs3, ↓reduceIte, Nat.reduceEqDiff, Nat.mul_one, Nat.add_zero, Nat.zero_add, Nat.zero_mul, Int.toNat_natCast, Int.reduceToNat, Nat.reduceMul, Nat.reduceAdd, decide_true, decide_false, Bool.not_true, Bool.not_false, true_and, and_true, List.map_cons, List.map_nil, List.nil_append, List.cons_append, List.append_nil, Option.map_some, Option.bind_some, List.getElem?_cons_zero, List.getElem?_cons_succ, Bool.false_eq_true, not_true_eq_false, not_false_eq_true, List.contains_cons, List.contains_nil, Nat.reduceBEq, Bool.true_or, Bool.false_or, Bool.or_true, List.set_cons_zero, List.set_cons_succ, List.length_cons, List.length_nil, isLd, Bool.true_and, Bool.false_and, Bool.and_true, Bool.and_false, e1, e2, e3, e5, e13, e15, e36, e37, k0, k1]
      rw [show Value.slice A' k c' = .slice A' t.length c' by rw [hlt]]
      refine impl_nextChoice_ok hI hbd ⟨by omega, by omega⟩ (by omega) (fun g4 => ?_) (fun ys g4 hly G4 A4 c4 hN4 => ?_)
      · simp (maxSteps := 300000) (disch := omega) only [gs, gs2, gs3, ↓reduceIte, Nat.reduceEqDiff, Nat.mul_one, Nat.add_zero, Nat.zero_add, Nat.zero_mul, Int.toNat_natCast, Int.reduceToNat, Nat.reduceMul, Nat.reduceAdd, decide_true, decide_false, Bool.not_true, Bool.not_false, true_and, and_true, List.map_cons, List.map_nil, List.nil_append, List.cons_append, List.append_nil, Option.map_some, Option.bind_some, List.getElem?_cons_zero, List.getElem?_cons_succ, Bool.false_eq_true, not_true_eq_false, not_false_eq_true, List.contains_cons, List.contains_nil, Nat.reduceBEq, Bool.true_or, Bool.false_or, Bool.or_true, List.set_cons_zero, List.set_cons_succ, List.length_cons, List.length_nil, isLd, Bool.true_and, Bool.false_and, Bool.and_true, Bool.and_false, e1, e2, e3, e5, e13, e36, e37, k0, k1]
        have hp : post = [] := by
          cases post with
          | nil => rfl
          | cons u r => have := hch.1; rw [g4] at this; cases this
        subst hp
        exact ⟨0, by simp, G3, Sub.refl _, [], kk + 1, rfl, rfl, fun t post h => (by cases h), trivial, fun t ht => (by simp at ht), fun t ht => (by simp at ht), sG, by rw [hb3]; congr 4; omega, by omega, hsc⟩
      · simp (maxSteps := 300000) (disch := omega) only [gs, gs2, gs3, ↓reduceIte, Nat.reduceEqDiff, Nat.mul_one, Nat.add_zero, Nat.zero_add, Nat.zero_mul, Int.toNat_natCast, Int.reduceToNat, Nat.reduceMul, Nat.reduceAdd, decide_true, decide_false, Bool.not_true, Bool.not_false, true_and, and_true, List.map_cons, List.map_nil, List.nil_append, List.cons_append, List.append_nil, Option.map_some, Option.bind_some, List.getElem?_cons_zero, List.getElem?_cons_succ, Bool.false_eq_true, not_true_eq_false, not_false_eq_true, List.contains_cons, List.contains_nil, Nat.reduceBEq, Bool.true_or, Bool.false_or, Bool.or_true, List.set_cons_zero, List.set_cons_succ, List.length_cons, List.length_nil, isLd, Bool.true_and, Bool.false_and, Bool.and_true, Bool.and_false, e1, e2, e3, e5, e13, e36, e37, k0, k1]
        obtain ⟨u, r, hp⟩ : ∃ u r, post = u :: r := by
          cases post with
          | nil => have : nxt N.n.toNat t = none := hch; rw [g4] at this; cases this
          | cons u r => exact ⟨u, r, rfl⟩
        subst hp
        have hu : ys = u := by have := hch.1; rw [g4] at this; cases this; rfl
        subst hu
        exact ⟨(ys :: r).length, by simp, G4, Sub.refl _, ys :: r, kk + 1, rfl, by simp, fun t' post' h => by
          cases h
          exact ⟨A4, c4, by rw [hlt], by rw [← hlt]; exact hN4.fresh, hN4.offs sG, hN4.nb hb3⟩, hch.2, fun x hx' => hlen x (List.mem_cons_of_mem _ hx'), fun x hx' => hmem x (List.mem_cons_of_mem _ hx'), sG.trans hN4.sub, by rw [hN4.sub _ _ hb3]; congr 4; omega, by omega, hsc⟩
theorem spec_wins_ok {H G : GH} {b : Nat} {q B Ag : Option Addr} {d cg : Nat} {N : Gra} {xs : List Int} {own value : Int} {m bud : Nat} {A : Option Addr} {c : Nat} {p : List Int} {k : Nat} {full : Bool} (h : SS H G b q B xs.length d own value m bud A c p k full)
    (hP : GraP H q N Ag cg) (hf : IntS H B d xs) (hs : ∀ j, j < p.length → 0 ≤ p.getD j 0 ∧ p.getD j 0 < xs.length) (hl : p.length < 2 ^ 20) (hn : GraOk N) (hx : VecOk N xs) (ho : 0 ≤ own ∧ own ≤ 1000) (hv : -1000000 ≤ value ∧ value ≤ 1000000) {K : Value → GH → Prop}
    (hk : K (.bool (leadB N own value xs p)) G) : GC Try.prog 211 [.pointer (some ⟨b, 0, none⟩)] G K := by
  refine GC_drop (c_spec_l18Search_wins_i (by simp) ?_)
  have hn1 := hn.1
  have hx1 := hx.1
  have r0 := h.r0
  have r1 := h.r1
  have r2 := h.r2
  have r3 := h.r3
  have r5 := h.r5
  simp (maxSteps := 300000) (disch := omega) only [gs, gs2, gs3, ↓reduceIte, Nat.reduceEqDiff, Nat.mul_one, Nat.add_zero, Nat.zero_add, Nat.zero_mul, Int.toNat_natCast, Int.reduceToNat, Nat.reduceMul, Nat.reduceAdd, decide_true, decide_false, Bool.not_true, Bool.not_false, true_and, and_true, List.map_cons, List.map_nil, List.nil_append, List.cons_append, List.append_nil, Option.map_some, Option.bind_some, List.getElem?_cons_zero, List.getElem?_cons_succ, Bool.false_eq_true, not_true_eq_false, not_false_eq_true, List.contains_cons, List.contains_nil, Nat.reduceBEq, Bool.true_or, Bool.false_or, Bool.or_true, List.set_cons_zero, List.set_cons_succ, List.length_cons, List.length_nil, isLd, Bool.true_and, Bool.false_and, Bool.and_true, Bool.and_false, r1]
  refine spec_l00Own_ok (hf.sub h.sub) (by omega) fun G2 A2 c2 hN => ?_
  simp (maxSteps := 300000) (disch := omega) only [gs, gs2, gs3, ↓reduceIte, Nat.reduceEqDiff, Nat.mul_one, Nat.add_zero, Nat.zero_add, Nat.zero_mul, Int.toNat_natCast, Int.reduceToNat, Nat.reduceMul, Nat.reduceAdd, decide_true, decide_false, Bool.not_true, Bool.not_false, true_and, and_true, List.map_cons, List.map_nil, List.nil_append, List.cons_append, List.append_nil, Option.map_some, Option.bind_some, List.getElem?_cons_zero, List.getElem?_cons_succ, Bool.false_eq_true, not_true_eq_false, not_false_eq_true, List.contains_cons, List.contains_nil, Nat.reduceBEq, Bool.true_or, Bool.false_or, Bool.or_true, List.set_cons_zero, List.set_cons_succ, List.length_cons, List.length_nil, isLd, Bool.true_and, Bool.false_and, Bool.and_true, Bool.and_false]
  have hgs : IntS G A c p := h.own.ints
  refine gLoop_intro (fun mm T G' => ∃ k : Nat, T 0 = .pointer (some ⟨b, 0, none⟩) ∧ T 3 = .slice A2 xs.length c2 ∧ T 4 = .int .i64 k ∧ mm + k = p.length ∧ k ≤ p.length ∧ New G G' A2 c2 ((setAll value (p.take k) xs).map I64) 1 xs.length)
    p.length ⟨0, by simp (maxSteps := 300000) (disch := omega) only [gs, gs2, gs3, ↓reduceIte, Nat.reduceEqDiff, Nat.mul_one, Nat.add_zero, Nat.zero_add, Nat.zero_mul, Int.toNat_natCast, Int.reduceToNat, Nat.reduceMul, Nat.reduceAdd, decide_true, decide_false, Bool.not_true, Bool.not_false, true_and, and_true, List.map_cons, List.map_nil, List.nil_append, List.cons_append, List.append_nil, Option.map_some, Option.bind_some, List.getElem?_cons_zero, List.getElem?_cons_succ, Bool.false_eq_true, not_true_eq_false, not_false_eq_true, List.contains_cons, List.contains_nil, Nat.reduceBEq, Bool.true_or, Bool.false_or, Bool.or_true, List.set_cons_zero, List.set_cons_succ, List.length_cons, List.length_nil, isLd, Bool.true_and, Bool.false_and, Bool.and_true, Bool.and_false], by simp (maxSteps := 300000) (disch := omega) only [gs, gs2, gs3, ↓reduceIte, Nat.reduceEqDiff, Nat.mul_one, Nat.add_zero, Nat.zero_add, Nat.zero_mul, Int.toNat_natCast, Int.reduceToNat, Nat.reduceMul, Nat.reduceAdd, decide_true, decide_false, Bool.not_true, Bool.not_false, true_and, and_true, List.map_cons, List.map_nil, List.nil_append, List.cons_append, List.append_nil, Option.map_some, Option.bind_some, List.getElem?_cons_zero, List.getElem?_cons_succ, Bool.false_eq_true, not_true_eq_false, not_false_eq_true, List.contains_cons, List.contains_nil, Nat.reduceBEq, Bool.true_or, Bool.false_or, Bool.or_true, List.set_cons_zero, List.set_cons_succ, List.length_cons, List.length_nil, isLd, Bool.true_and, Bool.false_and, Bool.and_true, Bool.and_false], by simp (maxSteps := 300000) (disch := omega) only [gs, gs2, gs3, ↓reduceIte, Nat.reduceEqDiff, Nat.mul_one, Nat.add_zero, Nat.zero_add, Nat.zero_mul, Int.toNat_natCast, Int.reduceToNat, Nat.reduceMul, Nat.reduceAdd, decide_true, decide_false, Bool.not_true, Bool.not_false, true_and, and_true, List.map_cons, List.map_nil, List.nil_append, List.cons_append, List.append_nil, Option.map_some, Option.bind_some, List.getElem?_cons_zero, List.getElem?_cons_succ, Bool.false_eq_true, not_true_eq_false, not_false_eq_true, List.contains_cons, List.contains_nil, Nat.reduceBEq, Bool.true_or, Bool.false_or, Bool.or_true, List.set_cons_zero, List.set_cons_succ, List.length_cons, List.length_nil, isLd, Bool.true_and, Bool.false_and, Bool.and_true, Bool.and_false] <;> rfl, by omega, by omega, hN⟩ ?_
  clear hN
  rintro mm T G' ⟨j, e0, e3, e4, hm, hkm, hN⟩
  have r := (hgs.sub hN.sub).rd
  have g0 := rd_sub hN.sub r0
  have g2 := rd_sub hN.sub r2
  have g3 := rd_sub hN.sub r3
  have g5 := rd_sub hN.sub r5
  simp (maxSteps := 300000) (disch := omega) only [gs, gs2, gs3, ↓reduceIte, Nat.reduceEqDiff, Nat.mul_one, Nat.add_zero, Nat.zero_add, Nat.zero_mul, Int.toNat_natCast, Int.reduceToNat, Nat.reduceMul, Nat.reduceAdd, decide_true, decide_false, Bool.not_true, Bool.not_false, true_and, and_true, List.map_cons, List.map_nil, List.nil_append, List.cons_append, List.append_nil, Option.map_some, Option.bind_some, List.getElem?_cons_zero, List.getElem?_cons_succ, Bool.false_eq_true, not_true_eq_false, not_false_eq_true, List.contains_cons, List.contains_nil, Nat.reduceBEq, Bool.true_or, Bool.false_or, Bool.or_true, List.set_cons_zero, List.set_cons_succ, List.length_cons, List.length_nil, isLd, Bool.true_and, Bool.false_and, Bool.and_true, Bool.and_false, e0, e3, e4, g5]
  by_cases hkk : (j : Int) < p.length
  · have hr := r j (by omega)
    have hsn := hgs.sn (by omega)
    obtain ⟨j0, j1⟩ := hs j (by omega)
    have hs2 := hN.sn (by omega)
    simp (maxSteps := 300000) (disch := omega) only [gs, gs2, gs3, ↓reduceIte, Nat.reduceEqDiff, Nat.mul_one, Nat.add_zero, Nat.zero_add, Nat.zero_mul, Int.toNat_natCast, Int.reduceToNat, Nat.reduceMul, Nat.reduceAdd, decide_true, decide_false, Bool.not_true, Bool.not_false, true_and, and_true, List.map_cons, List.map_nil, List.nil_append, List.cons_append, List.append_nil, Option.map_some, Option.bind_some, List.getElem?_cons_zero, List.getElem?_cons_succ, Bool.false_eq_true, not_true_eq_false, not_false_eq_true, List.contains_cons, List.contains_nil, Nat.reduceBEq, Bool.true_or, Bool.false_or, Bool.or_true, List.set_cons_zero, List.set_cons_succ, List.length_cons, List.length_nil, isLd, Bool.true_and, Bool.false_and, Bool.and_true, Bool.and_false, e0, e3, e4, g0, g2, g3, g5, hkk, hr]
    refine hN.store (k := (p.getD j 0).toNat) (by omega) rfl fun G3 hN3 => ?_
    simp (maxSteps := 300000) (disch := omega) only [gs, gs2, gs3, ↓reduceIte, Nat.reduceEqDiff, Nat.mul_one, Nat.add_zero, Nat.zero_add, Nat.zero_mul, Int.toNat_natCast, Int.reduceToNat, Nat.reduceMul, Nat.reduceAdd, decide_true, decide_false, Bool.not_true, Bool.not_false, true_and, and_true, List.map_cons, List.map_nil, List.nil_append, List.cons_append, List.append_nil, Option.map_some, Option.bind_some, List.getElem?_cons_zero, List.getElem?_cons_succ, Bool.false_eq_true, not_true_eq_false, not_false_eq_true, List.contains_cons, List.contains_nil, Nat.reduceBEq, Bool.true_or, Bool.false_or, Bool.or_true, List.set_cons_zero, List.set_cons_succ, List.length_cons, List.length_nil, isLd, Bool.true_and, Bool.false_and, Bool.and_true, Bool.and_false, e0, e3, e4]
    refine ⟨mm - 1, by omega, G3, Sub.refl _, j + 1, rfl, by omega, by omega, ?_⟩
    rw [setAll_step _ _ _ (by omega), List.map_set]; exact hN3
  · simp (maxSteps := 300000) (disch := omega) only [gs, gs2, gs3, ↓reduceIte, Nat.reduceEqDiff, Nat.mul_one, Nat.add_zero, Nat.zero_add, Nat.zero_mul, Int.toNat_natCast, Int.reduceToNat, Nat.reduceMul, Nat.reduceAdd, decide_true, decide_false, Bool.not_true, Bool.not_false, true_and, and_true, List.map_cons, List.map_nil, List.nil_append, List.cons_append, List.append_nil, Option.map_some, Option.bind_some, List.getElem?_cons_zero, List.getElem?_cons_succ, Bool.false_eq_true, not_true_eq_false, not_false_eq_true, List.contains_cons, List.contains_nil, Nat.reduceBEq, Bool.true_or, Bool.false_or, Bool.or_true, List.set_cons_zero, List.set_cons_succ, List.length_cons, List.length_nil, isLd, Bool.true_and, Bool.false_and, Bool.and_true, Bool.and_false, e0, e3, e4, g0, g2, g3, g5, hkk]
    obtain rfl : j = p.length := by omega
    rw [List.take_length] at hN
    have hlen := setAll_len value p xs
    have hI : IntS G' A2 c2 (setAll value p xs) := hN.ints' hlen.symm
    rw [show Value.slice A2 xs.length c2 = .slice A2 (setAll value p xs).length c2 by rw [hlen]]
    have hok := setAll_ok hv p xs hx
    have hrg := restF_range (avStep N.edges own 2000000 p) 1001 0 (setAll value p xs)
    refine spec_l18Rest_ok (N := N) (hP.sub (h.sub.trans hN.sub)) hI (hgs.sub hN.sub) (by omega) hn hok ho fun G3 A3 c3 hN3 => ?_
    simp (maxSteps := 300000) (disch := omega) only [gs, gs2, gs3, ↓reduceIte, Nat.reduceEqDiff, Nat.mul_one, Nat.add_zero, Nat.zero_add, Nat.zero_mul, Int.toNat_natCast, Int.reduceToNat, Nat.reduceMul, Nat.reduceAdd, decide_true, decide_false, Bool.not_true, Bool.not_false, true_and, and_true, List.map_cons, List.map_nil, List.nil_append, List.cons_append, List.append_nil, Option.map_some, Option.bind_some, List.getElem?_cons_zero, List.getElem?_cons_succ, Bool.false_eq_true, not_true_eq_false, not_false_eq_true, List.contains_cons, List.contains_nil, Nat.reduceBEq, Bool.true_or, Bool.false_or, Bool.or_true, List.set_cons_zero, List.set_cons_succ, List.length_cons, List.length_nil, isLd, Bool.true_and, Bool.false_and, Bool.and_true, Bool.and_false, e0, e3, e4]
    have hl3 : (restF (avStep N.edges own 2000000 p) 1001 0 (setAll value p xs)).2.length < 2 ^ 40 := by
      have := (restF_inv (step := avStep N.edges own 2000000 p) (P := VecOk N) (fun y hy => avStep_ok hn hy ho p) 1001 0 _ hok).1; omega
    have hlead : leadB N own value xs p = (decide (0 ≤ (restF (avStep N.edges own 2000000 p) 1001 0 (setAll value p xs)).1) && (restF (avStep N.edges own 2000000 p) 1001 0 (setAll value p xs)).2.all (· == value)) := rfl
    rw [hlead] at hk
    have k3 := rd_sub hN3.sub g3
    have hI3 := hN3.ints
    have sG := hN.sub.trans hN3.sub
    clear hN3 hlead hN hI
    generalize restF (avStep N.edges own 2000000 p) 1001 0 (setAll value p xs) = W at *
    refine gLoop_intro (fun mm T G' => ∃ k : Nat, T 0 = .pointer (some ⟨b, 0, none⟩) ∧ T 5 = .int .i64 W.1 ∧ T 6 = .slice A3 W.2.length c3 ∧ T 7 = .int .i64 k ∧ mm + k = W.2.length ∧ k ≤ W.2.length ∧ G3 = G' ∧ ∀ i, i < k → W.2.getD i 0 = value)
      W.2.length ⟨0, by simp (maxSteps := 300000) (disch := omega) only [gs, gs2, gs3, ↓reduceIte, Nat.reduceEqDiff, Nat.mul_one, Nat.add_zero, Nat.zero_add, Nat.zero_mul, Int.toNat_natCast, Int.reduceToNat, Nat.reduceMul, Nat.reduceAdd, decide_true, decide_false, Bool.not_true, Bool.not_false, true_and, and_true, List.map_cons, List.map_nil, List.nil_append, List.cons_append, List.append_nil, Option.map_some, Option.bind_some, List.getElem?_cons_zero, List.getElem?_cons_succ, Bool.false_eq_true, not_true_eq_false, not_false_eq_true, List.contains_cons, List.contains_nil, Nat.reduceBEq, Bool.true_or, Bool.false_or, Bool.or_true, List.set_cons_zero, List.set_cons_succ, List.length_cons, List.length_nil, isLd, Bool.true_and, Bool.false_and, Bool.and_true, Bool.and_false, e0], by simp (maxSteps := 300000) (disch := omega) only [gs, gs2, gs3, ↓reduceIte, Nat.reduceEqDiff, Nat.mul_one, Nat.add_zero, Nat.zero_add, Nat.zero_mul, Int.toNat_natCast, Int.reduceToNat, Nat.reduceMul, Nat.reduceAdd, decide_true, decide_false, Bool.not_true, Bool.not_false, true_and, and_true, List.map_cons, List.map_nil, List.nil_append, List.cons_append, List.append_nil, Option.map_some, Option.bind_some, List.getElem?_cons_zero, List.getElem?_cons_succ, Bool.false_eq_true, not_true_eq_false, not_false_eq_true, List.contains_cons, List.contains_nil, Nat.reduceBEq, Bool.true_or, Bool.false_or, Bool.or_true, List.set_cons_zero, List.set_cons_succ, List.length_cons, List.length_nil, isLd, Bool.true_and, Bool.false_and, Bool.and_true, Bool.and_false], by simp (maxSteps := 300000) (disch := omega) only [gs, gs2, gs3, ↓reduceIte, Nat.reduceEqDiff, Nat.mul_one, Nat.add_zero, Nat.zero_add, Nat.zero_mul, Int.toNat_natCast, Int.reduceToNat, Nat.reduceMul, Nat.reduceAdd, decide_true, decide_false, Bool.not_true, Bool.not_false, true_and, and_true, List.map_cons, List.map_nil, List.nil_append, List.cons_append, List.append_nil, Option.map_some, Option.bind_some, List.getElem?_cons_zero, List.getElem?_cons_succ, Bool.false_eq_true, not_true_eq_false, not_false_eq_true, List.contains_cons, List.contains_nil, Nat.reduceBEq, Bool.true_or, Bool.false_or, Bool.or_true, List.set_cons_zero, List.set_cons_succ, List.length_cons, List.length_nil, isLd, Bool.true_and, Bool.false_and, Bool.and_true, Bool.and_false], by simp (maxSteps := 300000) (disch := omega) only [gs, gs2, gs3, ↓reduceIte, Nat.reduceEqDiff, Nat.mul_one, Nat.add_zero, Nat.zero_add, Nat.zero_mul, Int.toNat_natCast, Int.reduceToNat, Nat.reduceMul, Nat.reduceAdd, decide_true, decide_false, Bool.not_true, Bool.not_false, true_and, and_true, List.map_cons, List.map_nil, List.nil_append, List.cons_append, List.append_nil, Option.map_some, Option.bind_some, List.getElem?_cons_zero, List.getElem?_cons_succ, Bool.false_eq_true, not_true_eq_false, not_false_eq_true, List.contains_cons, List.contains_nil, Nat.reduceBEq, Bool.true_or, Bool.false_or, Bool.or_true, List.set_cons_zero, List.set_cons_succ, List.length_cons, List.length_nil, isLd, Bool.true_and, Bool.false_and, Bool.and_true, Bool.and_false] <;> rfl, by omega, by omega, rfl, fun i hi => by omega⟩ ?_
    clear e0 e3 e4 hkk hkm hm g0 g2 g5 r
    rintro mm T G' ⟨i, e0, e5, e6, e7, hm, him, rfl, hall⟩
    simp (maxSteps := 300000) (disch := omega) only [gs, gs2, gs3, ↓reduceIte, Nat.reduceEqDiff, Nat.mul_one, Nat.add_zero, Nat.zero_add, Nat.zero_mul, Int.toNat_natCast, Int.reduceToNat, Nat.reduceMul, Nat.reduceAdd, decide_true, decide_false, Bool.not_true, Bool.not_false, true_and, and_true, List.map_cons, List.map_nil, List.nil_append, List.cons_append, List.append_nil, Option.map_some, Option.bind_some, List.getElem?_cons_zero, List.getElem?_cons_succ, Bool.false_eq_true, not_true_eq_false, not_false_eq_true, List.contains_cons, List.contains_nil, Nat.reduceBEq, Bool.true_or, Bool.false_or, Bool.or_true, List.set_cons_zero, List.set_cons_succ, List.length_cons, List.length_nil, isLd, Bool.true_and, Bool.false_and, Bool.and_true, Bool.and_false, e0, e5, e6, e7]
    by_cases hii : (i : Int) < W.2.length
    · have hr := hI3.rd i (by omega)
      have hsn := hI3.sn (by omega)
      simp (maxSteps := 300000) (disch := omega) only [gs, gs2, gs3, ↓reduceIte, Nat.reduceEqDiff, Nat.mul_one, Nat.add_zero, Nat.zero_add, Nat.zero_mul, Int.toNat_natCast, Int.reduceToNat, Nat.reduceMul, Nat.reduceAdd, decide_true, decide_false, Bool.not_true, Bool.not_false, true_and, and_true, List.map_cons, List.map_nil, List.nil_append, List.cons_append, List.append_nil, Option.map_some, Option.bind_some, List.getElem?_cons_zero, List.getElem?_cons_succ, Bool.false_eq_true, not_true_eq_false, not_false_eq_true, List.contains_cons, List.contains_nil, Nat.reduceBEq, Bool.true_or, Bool.false_or, Bool.or_true, List.set_cons_zero, List.set_cons_succ, List.length_cons, List.length_nil, isLd, Bool.true_and, Bool.false_and, Bool.and_true, Bool.and_false, e0, e5, e6, e7, hii, hr, k3]
      by_cases hv2 : W.2.getD i 0 = value
      · simp (maxSteps := 300000) (disch := omega) only [gs, gs2, gs3, ↓reduceIte, Nat.reduceEqDiff, Nat.mul_one, Nat.add_zero, Nat.zero_add, Nat.zero_mul, Int.toNat_natCast, Int.reduceToNat, Nat.reduceMul, Nat.reduceAdd, decide_true, decide_false, Bool.not_true, Bool.not_false, true_and, and_true, List.map_cons, List.map_nil, List.nil_append, List.cons_append, List.append_nil, Option.map_some, Option.bind_some, List.getElem?_cons_zero, List.getElem?_cons_succ, Bool.false_eq_true, not_true_eq_false, not_false_eq_true, List.contains_cons, List.contains_nil, Nat.reduceBEq, Bool.true_or, Bool.false_or, Bool.or_true, List.set_cons_zero, List.set_cons_succ, List.length_cons, List.length_nil, isLd, Bool.true_and, Bool.false_and, Bool.and_true, Bool.and_false, eq_true hv2, e0, e5, e6, e7]
        exact ⟨mm - 1, by omega, G3, Sub.refl _, i + 1, rfl, by omega, by omega, rfl, fun x hx' => by
          by_cases e : x = i
          · rw [e]; exact hv2
          · exact hall x (by omega)⟩
      · simp (maxSteps := 300000) (disch := omega) only [gs, gs2, gs3, ↓reduceIte, Nat.reduceEqDiff, Nat.mul_one, Nat.add_zero, Nat.zero_add, Nat.zero_mul, Int.toNat_natCast, Int.reduceToNat, Nat.reduceMul, Nat.reduceAdd, decide_true, decide_false, Bool.not_true, Bool.not_false, true_and, and_true, List.map_cons, List.map_nil, List.nil_append, List.cons_append, List.append_nil, Option.map_some, Option.bind_some, List.getElem?_cons_zero, List.getElem?_cons_succ, Bool.false_eq_true, not_true_eq_false, not_false_eq_true, List.contains_cons, List.contains_nil, Nat.reduceBEq, Bool.true_or, Bool.false_or, Bool.or_true, List.set_cons_zero, List.set_cons_succ, List.length_cons, List.length_nil, isLd, Bool.true_and, Bool.false_and, Bool.and_true, Bool.and_false, eq_false hv2, e0, e5, e6, e7]
        have : W.2.all (· == value) = false := by
          rw [List.all_eq_false]
          exact ⟨W.2.getD i 0, by simp [List.getD, show i < W.2.length by omega], by simpa using hv2⟩
        rw [this, Bool.and_false] at hk
        exact ⟨G, sG, hk⟩
    · simp (maxSteps := 300000) (disch := omega) only [gs, gs2, gs3, ↓reduceIte, Nat.reduceEqDiff, Nat.mul_one, Nat.add_zero, Nat.zero_add, Nat.zero_mul, Int.toNat_natCast, Int.reduceToNat, Nat.reduceMul, Nat.reduceAdd, decide_true, decide_false, Bool.not_true, Bool.not_false, true_and, and_true, List.map_cons, List.map_nil, List.nil_append, List.cons_append, List.append_nil, Option.map_some, Option.bind_some, List.getElem?_cons_zero, List.getElem?_cons_succ, Bool.false_eq_true, not_true_eq_false, not_false_eq_true, List.contains_cons, List.contains_nil, Nat.reduceBEq, Bool.true_or, Bool.false_or, Bool.or_true, List.set_cons_zero, List.set_cons_succ, List.length_cons, List.length_nil, isLd, Bool.true_and, Bool.false_and, Bool.and_true, Bool.and_false, e0, e5, e6, e7, hii]
      obtain rfl : i = W.2.length := by omega
      have : W.2.all (· == value) = true := by
        rw [List.all_eq_true]
        intro x hx'
        obtain ⟨i, hi, rfl⟩ := List.mem_iff_getElem.1 hx'
        have := hall i hi
        simpa [List.getD, hi] using this
      rw [this, Bool.and_true] at hk
      exact ⟨G, sG, hk⟩
/-- what the search does to the state. -/
def SRun (H : GH) (b : Nat) (q B : Option Addr) (L d : Nat) (own value : Int) (m bud : Nat) (p : List Int) (R : Option (List Int) × Nat × Bool) (K : Value → GH → Prop) : Prop :=
  (∀ s k f, R = (some s, k, f) → ∀ G' A' c', SS H G' b q B L d own value m bud A' c' s k f → K (.bool true) G') ∧
  (∀ k f, R = (none, k, f) → ∀ G' A' c', SS H G' b q B L d own value m bud A' c' p k f → K (.bool false) G')
theorem SS.up {H G G' : GH} {b : Nat} {q B : Option Addr} {L d : Nat} {own value : Int} {m bud : Nat} {A : Option Addr} {c : Nat} {p : List Int} {k : Nat} {full : Bool} (h : SS H G b q B L d own value m bud A c p k full) (s : Sub G G') : SS H G' b q B L d own value m bud A c p k full :=
  ⟨h.sub.trans s, h.nb, s _ _ h.blk, h.own.sub s, h.off, h.da⟩
theorem map_pre (p : List Int) (i : Int) (L : List (List Int)) : (L.map fun t => i :: t).map (fun t => p ++ t) = L.map fun t => (p ++ [i]) ++ t := by
  simp
theorem sl_pop {A : Option Addr} {n c : Nat} (h : n + 1 ≤ c) : slV 1 (.slice A (n + 1) c) none (some (.int .i64 (((n + 1 : Nat) : Int) - 1))) = some (.slice A n c) := by
  have e : (((n + 1 : Nat) : Int) - 1).toNat = n := by omega
  simp only [slV, onSl, bndV, onInt]
  rw [if_pos ⟨by omega, by omega⟩, e]
  simp [pa_zero]
theorem spec_run_ok {H : GH} {b : Nat} {q B Ag : Option Addr} {d cg : Nat} {N : Gra} {xs : List Int} {own value : Int} {m bud : Nat} (hP : GraP H q N Ag cg) (hf : IntS H B d xs) (hn : GraOk N) (hx : VecOk N xs) (ho : 0 ≤ own ∧ own ≤ 1000) (hv : -1000000 ≤ value ∧ value ≤ 1000000) (hmb : m ≤ 12) (hbud : bud ≤ 20000) :
    ∀ (r : Nat) {G : GH} {A : Option Addr} {c : Nat} {p : List Int} {k lo : Nat} {K : Value → GH → Prop}, SS H G b q B xs.length d own value m bud A c p k false → p.length + r = m → lo ≤ 13 → k ≤ bud → (∀ x ∈ p, 0 ≤ x ∧ x < N.n) →
    SRun H b q B xs.length d own value m bud p (seek (leadB N own value xs) bud ((chs N.n.toNat r lo).map fun t => p ++ t) k) K → GC Try.prog 126 [.pointer (some ⟨b, 0, none⟩), .int .i64 lo] G K
  | 0, G, A, c, p, k, lo, K, h, hpr, hlo, hkb, hb, hk => by
    refine c_spec_l18Search_run_i (by simp) ?_
    have hn1 := hn.1
    have hx1 := hx.1
    have r4 := h.r4
    have r5 := h.r5
    have r6 := h.r6
    have r7 := h.r7
    simp (maxSteps := 300000) (disch := omega) only [gs, gs2, gs3, ↓reduceIte, Nat.reduceEqDiff, Nat.mul_one, Nat.add_zero, Nat.zero_add, Nat.zero_mul, Int.toNat_natCast, Int.reduceToNat, Nat.reduceMul, Nat.reduceAdd, decide_true, decide_false, Bool.not_true, Bool.not_false, true_and, and_true, List.map_cons, List.map_nil, List.nil_append, List.cons_append, List.append_nil, Option.map_some, Option.bind_some, List.getElem?_cons_zero, List.getElem?_cons_succ, Bool.false_eq_true, not_true_eq_false, not_false_eq_true, List.contains_cons, List.contains_nil, Nat.reduceBEq, Bool.true_or, Bool.false_or, Bool.or_true, List.set_cons_zero, List.set_cons_succ, List.length_cons, List.length_nil, isLd, Bool.true_and, Bool.false_and, Bool.and_true, Bool.and_false, r4, r5, show ((p.length : Int) = m) = True from eq_true (by omega)]
    simp only [chs, List.map_cons, List.map_nil, List.append_nil, seek_cons] at hk
    by_cases hf0 : k = bud
    · simp (maxSteps := 300000) (disch := omega) only [gs, gs2, gs3, ↓reduceIte, Nat.reduceEqDiff, Nat.mul_one, Nat.add_zero, Nat.zero_add, Nat.zero_mul, Int.toNat_natCast, Int.reduceToNat, Nat.reduceMul, Nat.reduceAdd, decide_true, decide_false, Bool.not_true, Bool.not_false, true_and, and_true, List.map_cons, List.map_nil, List.nil_append, List.cons_append, List.append_nil, Option.map_some, Option.bind_some, List.getElem?_cons_zero, List.getElem?_cons_succ, Bool.false_eq_true, not_true_eq_false, not_false_eq_true, List.contains_cons, List.contains_nil, Nat.reduceBEq, Bool.true_or, Bool.false_or, Bool.or_true, List.set_cons_zero, List.set_cons_succ, List.length_cons, List.length_nil, isLd, Bool.true_and, Bool.false_and, Bool.and_true, Bool.and_false, r6, r7, show ((k : Int) = bud) = True from eq_true (by omega)]
      refine h.st (m' := m) (k' := k) (full' := true) (by omega) rfl rfl fun G' h' => ?_
      simp (maxSteps := 300000) (disch := omega) only [gs, gs2, gs3, ↓reduceIte, Nat.reduceEqDiff, Nat.mul_one, Nat.add_zero, Nat.zero_add, Nat.zero_mul, Int.toNat_natCast, Int.reduceToNat, Nat.reduceMul, Nat.reduceAdd, decide_true, decide_false, Bool.not_true, Bool.not_false, true_and, and_true, List.map_cons, List.map_nil, List.nil_append, List.cons_append, List.append_nil, Option.map_some, Option.bind_some, List.getElem?_cons_zero, List.getElem?_cons_succ, Bool.false_eq_true, not_true_eq_false, not_false_eq_true, List.contains_cons, List.contains_nil, Nat.reduceBEq, Bool.true_or, Bool.false_or, Bool.or_true, List.set_cons_zero, List.set_cons_succ, List.length_cons, List.length_nil, isLd, Bool.true_and, Bool.false_and, Bool.and_true, Bool.and_false]
      rw [if_pos hf0] at hk
      exact hk.2 _ _ rfl _ _ _ h'
    · simp (maxSteps := 300000) (disch := omega) only [gs, gs2, gs3, ↓reduceIte, Nat.reduceEqDiff, Nat.mul_one, Nat.add_zero, Nat.zero_add, Nat.zero_mul, Int.toNat_natCast, Int.reduceToNat, Nat.reduceMul, Nat.reduceAdd, decide_true, decide_false, Bool.not_true, Bool.not_false, true_and, and_true, List.map_cons, List.map_nil, List.nil_append, List.cons_append, List.append_nil, Option.map_some, Option.bind_some, List.getElem?_cons_zero, List.getElem?_cons_succ, Bool.false_eq_true, not_true_eq_false, not_false_eq_true, List.contains_cons, List.contains_nil, Nat.reduceBEq, Bool.true_or, Bool.false_or, Bool.or_true, List.set_cons_zero, List.set_cons_succ, List.length_cons, List.length_nil, isLd, Bool.true_and, Bool.false_and, Bool.and_true, Bool.and_false, r6, r7, show ((k : Int) = bud) = False from eq_false (by omega)]
      refine h.st (m' := m) (k' := k + 1) (full' := false) (by omega) rfl rfl fun G' h' => ?_
      simp (maxSteps := 300000) (disch := omega) only [gs, gs2, gs3, ↓reduceIte, Nat.reduceEqDiff, Nat.mul_one, Nat.add_zero, Nat.zero_add, Nat.zero_mul, Int.toNat_natCast, Int.reduceToNat, Nat.reduceMul, Nat.reduceAdd, decide_true, decide_false, Bool.not_true, Bool.not_false, true_and, and_true, List.map_cons, List.map_nil, List.nil_append, List.cons_append, List.append_nil, Option.map_some, Option.bind_some, List.getElem?_cons_zero, List.getElem?_cons_succ, Bool.false_eq_true, not_true_eq_false, not_false_eq_true, List.contains_cons, List.contains_nil, Nat.reduceBEq, Bool.true_or, Bool.false_or, Bool.or_true, List.set_cons_zero, List.set_cons_succ, List.length_cons, List.length_nil, isLd, Bool.true_and, Bool.false_and, Bool.and_true, Bool.and_false]
      rw [if_neg hf0] at hk
      refine spec_wins_ok h' hP hf (fun j hj => by have := hb (p.getD j 0) (by simp [List.getD, hj]); omega) (by omega) hn hx ho hv ?_
      simp (maxSteps := 300000) (disch := omega) only [gs, gs2, gs3, ↓reduceIte, Nat.reduceEqDiff, Nat.mul_one, Nat.add_zero, Nat.zero_add, Nat.zero_mul, Int.toNat_natCast, Int.reduceToNat, Nat.reduceMul, Nat.reduceAdd, decide_true, decide_false, Bool.not_true, Bool.not_false, true_and, and_true, List.map_cons, List.map_nil, List.nil_append, List.cons_append, List.append_nil, Option.map_some, Option.bind_some, List.getElem?_cons_zero, List.getElem?_cons_succ, Bool.false_eq_true, not_true_eq_false, not_false_eq_true, List.contains_cons, List.contains_nil, Nat.reduceBEq, Bool.true_or, Bool.false_or, Bool.or_true, List.set_cons_zero, List.set_cons_succ, List.length_cons, List.length_nil, isLd, Bool.true_and, Bool.false_and, Bool.and_true, Bool.and_false]
      by_cases hw : leadB N own value xs p = true
      · rw [if_pos hw] at hk
        rw [hw]
        exact hk.1 _ _ _ rfl _ _ _ h'
      · rw [if_neg hw] at hk
        rw [show leadB N own value xs p = false by simpa using hw]
        exact hk.2 _ _ rfl _ _ _ h'
  | r + 1, G, A, c, p, k, lo, K, h, hpr, hlo, hkb, hb, hk => by
    refine c_spec_l18Search_run_i (by simp) ?_
    have hn1 := hn.1
    have hx1 := hx.1
    have r4 := h.r4
    have r5 := h.r5
    simp (maxSteps := 300000) (disch := omega) only [gs, gs2, gs3, ↓reduceIte, Nat.reduceEqDiff, Nat.mul_one, Nat.add_zero, Nat.zero_add, Nat.zero_mul, Int.toNat_natCast, Int.reduceToNat, Nat.reduceMul, Nat.reduceAdd, decide_true, decide_false, Bool.not_true, Bool.not_false, true_and, and_true, List.map_cons, List.map_nil, List.nil_append, List.cons_append, List.append_nil, Option.map_some, Option.bind_some, List.getElem?_cons_zero, List.getElem?_cons_succ, Bool.false_eq_true, not_true_eq_false, not_false_eq_true, List.contains_cons, List.contains_nil, Nat.reduceBEq, Bool.true_or, Bool.false_or, Bool.or_true, List.set_cons_zero, List.set_cons_succ, List.length_cons, List.length_nil, isLd, Bool.true_and, Bool.false_and, Bool.and_true, Bool.and_false, r4, r5, show ((p.length : Int) = m) = False from eq_false (by omega)]
    refine gLoop_intro (fun mm T G' => ∃ (i k' : Nat) (f : Bool) (A' : Option Addr) (c' : Nat), T 0 = .pointer (some ⟨b, 0, none⟩) ∧ T 5 = .int .i64 i ∧ mm + i = lo + 14 ∧ i ≤ lo + 14 ∧ i ≤ 14 ∧ k' ≤ bud ∧ SS H G' b q B xs.length d own value m bud A' c' p k' f ∧
        ((f = false ∧ seek (leadB N own value xs) bud ((chs N.n.toNat (r + 1) lo).map fun t => p ++ t) k = seek (leadB N own value xs) bud ((chs N.n.toNat (r + 1) i).map fun t => p ++ t) k') ∨ (f = true ∧ seek (leadB N own value xs) bud ((chs N.n.toNat (r + 1) lo).map fun t => p ++ t) k = (none, k', true))))
      14 ⟨lo, k, false, A, c, by simp (maxSteps := 300000) (disch := omega) only [gs, gs2, gs3, ↓reduceIte, Nat.reduceEqDiff, Nat.mul_one, Nat.add_zero, Nat.zero_add, Nat.zero_mul, Int.toNat_natCast, Int.reduceToNat, Nat.reduceMul, Nat.reduceAdd, decide_true, decide_false, Bool.not_true, Bool.not_false, true_and, and_true, List.map_cons, List.map_nil, List.nil_append, List.cons_append, List.append_nil, Option.map_some, Option.bind_some, List.getElem?_cons_zero, List.getElem?_cons_succ, Bool.false_eq_true, not_true_eq_false, not_false_eq_true, List.contains_cons, List.contains_nil, Nat.reduceBEq, Bool.true_or, Bool.false_or, Bool.or_true, List.set_cons_zero, List.set_cons_succ, List.length_cons, List.length_nil, isLd, Bool.true_and, Bool.false_and, Bool.and_true, Bool.and_false], by simp (maxSteps := 300000) (disch := omega) only [gs, gs2, gs3, ↓reduceIte, Nat.reduceEqDiff, Nat.mul_one, Nat.add_zero, Nat.zero_add, Nat.zero_mul, Int.toNat_natCast, Int.reduceToNat, Nat.reduceMul, Nat.reduceAdd, decide_true, decide_false, Bool.not_true, Bool.not_false, true_and, and_true, List.map_cons, List.map_nil, List.nil_append, List.cons_append, List.append_nil, Option.map_some, Option.bind_some, List.getElem?_cons_zero, List.getElem?_cons_succ, Bool.false_eq_true, not_true_eq_false, not_false_eq_true, List.contains_cons, List.contains_nil, Nat.reduceBEq, Bool.true_or, Bool.false_or, Bool.or_true, List.set_cons_zero, List.set_cons_succ, List.length_cons, List.length_nil, isLd, Bool.true_and, Bool.false_and, Bool.and_true, Bool.and_false] <;> rfl, by omega, by omega, by omega, hkb, h, .inl ⟨rfl, rfl⟩⟩ ?_
    clear r4 r5
    rintro mm T G' ⟨i, k', f, A', c', e0, e5, hm, hi, hi2, hk', h', hsk⟩
    have r0 := h'.r0
    have r5 := h'.r5
    have r8 := h'.r8
    have q0 := rd_sub h'.sub hP.f0
    have hq := rd_some hP.f0
    simp (maxSteps := 300000) (disch := omega) only [gs, gs2, gs3, ↓reduceIte, Nat.reduceEqDiff, Nat.mul_one, Nat.add_zero, Nat.zero_add, Nat.zero_mul, Int.toNat_natCast, Int.reduceToNat, Nat.reduceMul, Nat.reduceAdd, decide_true, decide_false, Bool.not_true, Bool.not_false, true_and, and_true, List.map_cons, List.map_nil, List.nil_append, List.cons_append, List.append_nil, Option.map_some, Option.bind_some, List.getElem?_cons_zero, List.getElem?_cons_succ, Bool.false_eq_true, not_true_eq_false, not_false_eq_true, List.contains_cons, List.contains_nil, Nat.reduceBEq, Bool.true_or, Bool.false_or, Bool.or_true, List.set_cons_zero, List.set_cons_succ, List.length_cons, List.length_nil, isLd, Bool.true_and, Bool.false_and, Bool.and_true, Bool.and_false, e0, e5, r0, q0]
    by_cases hin : (i : Int) < N.n
    · cases f with
      | true =>
        simp (maxSteps := 300000) (disch := omega) only [gs, gs2, gs3, ↓reduceIte, Nat.reduceEqDiff, Nat.mul_one, Nat.add_zero, Nat.zero_add, Nat.zero_mul, Int.toNat_natCast, Int.reduceToNat, Nat.reduceMul, Nat.reduceAdd, decide_true, decide_false, Bool.not_true, Bool.not_false, true_and, and_true, List.map_cons, List.map_nil, List.nil_append, List.cons_append, List.append_nil, Option.map_some, Option.bind_some, List.getElem?_cons_zero, List.getElem?_cons_succ, Bool.false_eq_true, not_true_eq_false, not_false_eq_true, List.contains_cons, List.contains_nil, Nat.reduceBEq, Bool.true_or, Bool.false_or, Bool.or_true, List.set_cons_zero, List.set_cons_succ, List.length_cons, List.length_nil, isLd, Bool.true_and, Bool.false_and, Bool.and_true, Bool.and_false, e0, e5, r0, q0, hin, r8]
        rcases hsk with ⟨h0, _⟩ | ⟨_, hsk⟩
        · cases h0
        · exact hk.2 _ _ hsk _ _ _ h'
      | false =>
        rcases hsk with ⟨_, hsk⟩ | ⟨h0, _⟩
        rotate_left
        · cases h0
        simp (maxSteps := 300000) (disch := omega) only [gs, gs2, gs3, ↓reduceIte, Nat.reduceEqDiff, Nat.mul_one, Nat.add_zero, Nat.zero_add, Nat.zero_mul, Int.toNat_natCast, Int.reduceToNat, Nat.reduceMul, Nat.reduceAdd, decide_true, decide_false, Bool.not_true, Bool.not_false, true_and, and_true, List.map_cons, List.map_nil, List.nil_append, List.cons_append, List.append_nil, Option.map_some, Option.bind_some, List.getElem?_cons_zero, List.getElem?_cons_succ, Bool.false_eq_true, not_true_eq_false, not_false_eq_true, List.contains_cons, List.contains_nil, Nat.reduceBEq, Bool.true_or, Bool.false_or, Bool.or_true, List.set_cons_zero, List.set_cons_succ, List.length_cons, List.length_nil, isLd, Bool.true_and, Bool.false_and, Bool.and_true, Bool.and_false, e0, e5, r0, r5, q0, hin, r8, gBs]
        refine ⟨by intro v hv; simp at hv; subst hv; rfl, fun b62 hb62 => ?_⟩
        have hpl : p.length ≤ 12 := by omega
        refine (h'.up (Sub.put hb62 _)).push (by omega) (cells_one [.int .i64 (i : Int)] true) fun G2 A2 c2 _ hst => ?_
        simp (maxSteps := 300000) (disch := omega) only [gs, gs2, gs3, ↓reduceIte, Nat.reduceEqDiff, Nat.mul_one, Nat.add_zero, Nat.zero_add, Nat.zero_mul, Int.toNat_natCast, Int.reduceToNat, Nat.reduceMul, Nat.reduceAdd, decide_true, decide_false, Bool.not_true, Bool.not_false, true_and, and_true, List.map_cons, List.map_nil, List.nil_append, List.cons_append, List.append_nil, Option.map_some, Option.bind_some, List.getElem?_cons_zero, List.getElem?_cons_succ, Bool.false_eq_true, not_true_eq_false, not_false_eq_true, List.contains_cons, List.contains_nil, Nat.reduceBEq, Bool.true_or, Bool.false_or, Bool.or_true, List.set_cons_zero, List.set_cons_succ, List.length_cons, List.length_nil, isLd, Bool.true_and, Bool.false_and, Bool.and_true, Bool.and_false, e0, e5]
        refine hst _ fun G3 h3 => ?_
        simp (maxSteps := 300000) (disch := omega) only [gs, gs2, gs3, ↓reduceIte, Nat.reduceEqDiff, Nat.mul_one, Nat.add_zero, Nat.zero_add, Nat.zero_mul, Int.toNat_natCast, Int.reduceToNat, Nat.reduceMul, Nat.reduceAdd, decide_true, decide_false, Bool.not_true, Bool.not_false, true_and, and_true, List.map_cons, List.map_nil, List.nil_append, List.cons_append, List.append_nil, Option.map_some, Option.bind_some, List.getElem?_cons_zero, List.getElem?_cons_succ, Bool.false_eq_true, not_true_eq_false, not_false_eq_true, List.contains_cons, List.contains_nil, Nat.reduceBEq, Bool.true_or, Bool.false_or, Bool.or_true, List.set_cons_zero, List.set_cons_succ, List.length_cons, List.length_nil, isLd, Bool.true_and, Bool.false_and, Bool.and_true, Bool.and_false, e0, e5]
        rw [chs_step (n := N.n.toNat) (lo := i) r (by omega), List.map_append, map_pre] at hsk
        refine spec_run_ok hP hf hn hx ho hv hmb hbud r (lo := i + 1) h3 (by rw [List.length_append, List.length_singleton]; omega) (by omega) hk' (fun x hx' => ?_) ⟨fun s k2 f2 hR G4 A4 c4 h4 => ?_, fun k2 f2 hR G4 A4 c4 h4 => ?_⟩
        · rcases List.mem_append.1 hx' with h1 | h1
          · exact hb x h1
          · simp at h1; omega
        · simp (maxSteps := 300000) (disch := omega) only [gs, gs2, gs3, ↓reduceIte, Nat.reduceEqDiff, Nat.mul_one, Nat.add_zero, Nat.zero_add, Nat.zero_mul, Int.toNat_natCast, Int.reduceToNat, Nat.reduceMul, Nat.reduceAdd, decide_true, decide_false, Bool.not_true, Bool.not_false, true_and, and_true, List.map_cons, List.map_nil, List.nil_append, List.cons_append, List.append_nil, Option.map_some, Option.bind_some, List.getElem?_cons_zero, List.getElem?_cons_succ, Bool.false_eq_true, not_true_eq_false, not_false_eq_true, List.contains_cons, List.contains_nil, Nat.reduceBEq, Bool.true_or, Bool.false_or, Bool.or_true, List.set_cons_zero, List.set_cons_succ, List.length_cons, List.length_nil, isLd, Bool.true_and, Bool.false_and, Bool.and_true, Bool.and_false, e0, e5]
          rw [seek_stop (.inl (by simp)) hR] at hsk
          exact hk.1 _ _ _ hsk _ _ _ h4
        · have r5 := h4.r5
          rw [List.length_append, List.length_singleton] at r5
          have hcap := h4.own.ints.cap
          rw [List.length_append, List.length_singleton] at hcap
          simp (maxSteps := 300000) (disch := omega) only [gs, gs2, gs3, ↓reduceIte, Nat.reduceEqDiff, Nat.mul_one, Nat.add_zero, Nat.zero_add, Nat.zero_mul, Int.toNat_natCast, Int.reduceToNat, Nat.reduceMul, Nat.reduceAdd, decide_true, decide_false, Bool.not_true, Bool.not_false, true_and, and_true, List.map_cons, List.map_nil, List.nil_append, List.cons_append, List.append_nil, Option.map_some, Option.bind_some, List.getElem?_cons_zero, List.getElem?_cons_succ, Bool.false_eq_true, not_true_eq_false, not_false_eq_true, List.contains_cons, List.contains_nil, Nat.reduceBEq, Bool.true_or, Bool.false_or, Bool.or_true, List.set_cons_zero, List.set_cons_succ, List.length_cons, List.length_nil, isLd, Bool.true_and, Bool.false_and, Bool.and_true, Bool.and_false, e0, e5, r5, Option.map_none, sl_pop hcap]
          refine h4.popped fun G5 h5 => ?_
          simp (maxSteps := 300000) (disch := omega) only [gs, gs2, gs3, ↓reduceIte, Nat.reduceEqDiff, Nat.mul_one, Nat.add_zero, Nat.zero_add, Nat.zero_mul, Int.toNat_natCast, Int.reduceToNat, Nat.reduceMul, Nat.reduceAdd, decide_true, decide_false, Bool.not_true, Bool.not_false, true_and, and_true, List.map_cons, List.map_nil, List.nil_append, List.cons_append, List.append_nil, Option.map_some, Option.bind_some, List.getElem?_cons_zero, List.getElem?_cons_succ, Bool.false_eq_true, not_true_eq_false, not_false_eq_true, List.contains_cons, List.contains_nil, Nat.reduceBEq, Bool.true_or, Bool.false_or, Bool.or_true, List.set_cons_zero, List.set_cons_succ, List.length_cons, List.length_nil, isLd, Bool.true_and, Bool.false_and, Bool.and_true, Bool.and_false, e0, e5]
          have hk2 : k2 ≤ bud := by have := seek_le (leadB N own value xs) bud ((chs N.n.toNat r (i + 1)).map fun t => p ++ [(i : Int)] ++ t) k' hk'; rw [hR] at this; exact this
          refine ⟨mm - 1, by omega, G5, Sub.refl _, i + 1, k2, f2, A4, c4, rfl, by omega, by omega, by omega, hk2, h5, ?_⟩
          cases f2 with
          | false => exact .inl ⟨rfl, by rw [hsk]; exact seek_none hR⟩
          | true => exact .inr ⟨rfl, by rw [hsk]; exact seek_stop (.inr rfl) hR⟩
    · simp (maxSteps := 300000) (disch := omega) only [gs, gs2, gs3, ↓reduceIte, Nat.reduceEqDiff, Nat.mul_one, Nat.add_zero, Nat.zero_add, Nat.zero_mul, Int.toNat_natCast, Int.reduceToNat, Nat.reduceMul, Nat.reduceAdd, decide_true, decide_false, Bool.not_true, Bool.not_false, true_and, and_true, List.map_cons, List.map_nil, List.nil_append, List.cons_append, List.append_nil, Option.map_some, Option.bind_some, List.getElem?_cons_zero, List.getElem?_cons_succ, Bool.false_eq_true, not_true_eq_false, not_false_eq_true, List.contains_cons, List.contains_nil, Nat.reduceBEq, Bool.true_or, Bool.false_or, Bool.or_true, List.set_cons_zero, List.set_cons_succ, List.length_cons, List.length_nil, isLd, Bool.true_and, Bool.false_and, Bool.and_true, Bool.and_false, e0, e5, r0, q0, hin]
      rcases hsk with ⟨rfl, hsk⟩ | ⟨rfl, hsk⟩
      · rw [chs_end (n := N.n.toNat) (lo := i) r (by omega)] at hsk
        exact hk.2 _ _ hsk _ _ _ h'
      · exact hk.2 _ _ hsk _ _ _ h'
theorem map_nil_pre (L : List (List Int)) : (L.map fun t => ([] : List Int) ++ t) = L := by simp
theorem few_len {N : Gra} {xs : List Int} {own value budget : Int} : (fewV N xs own value budget).1.length ≤ 2 ^ 20 := by
  unfold fewV
  split
  · simp
  · rename_i g0
    split
    · simp
    · split
      · rename_i s k f hs
        obtain ⟨hm, _⟩ := seek_found hs
        simp only [allFrom, List.mem_flatMap, List.mem_range'_1] at hm
        obtain ⟨j, hj, hm⟩ := hm
        have hl := chs_len _ _ _ _ hm
        have hn := (stepC_zero.1 (Classical.not_not.1 g0)).1.1.1
        show s.length ≤ _
        omega
      · simp

end Go.Proofs.Ytmlkgpoakkgjbaa.Gh
