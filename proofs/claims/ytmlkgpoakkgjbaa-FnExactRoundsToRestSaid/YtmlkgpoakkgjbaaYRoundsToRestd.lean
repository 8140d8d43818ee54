/- What the functions that the law RoundsToRest reaches return, and the law; it stands under no condition. -/
import Derived.Test.YtmlkgpoakkgjbaaYRoundsToRestc
namespace Go.Proofs.Ytmlkgpoakkgjbaa.Gh
open Go Go.RowKit Go.Proofs
set_option linter.unusedVariables false
set_option linter.unusedSimpArgs false
set_option maxHeartbeats 4000000

theorem l18Step_l1 {G1 G' : GH} {N : Gra} {A B C : Option Addr} {c d e bS bW cS cW : Nat} {rS rW : List Value} {q : Option Addr} {xs fixed : List Int} {own lim : Int} {T : Nat → Value} {Q : Cont} (h : GraP G1 q N A c) (hf : IntS G1 B d xs) (hx : VecOk N xs) (hn : GraOk N) (ho : 0 ≤ own ∧ own ≤ 1000)
    (e0 : T 0 = .pointer q) (e1 : T 1 = .slice B xs.length d) (e3 : T 3 = .int .i64 lim) (e4 : T 4 = .slice C fixed.length e) (e11 : T 11 = .slice (some ⟨bS, 0, none⟩) xs.length cS) (e12 : T 12 = .slice (some ⟨bW, 0, none⟩) xs.length cW)
    (e14 : T 14 = .int .i64 0) (hA : AvG G1 G' bS bW xs.length rS rW (avS N.edges xs own (limR lim) 0) (avW N.edges xs own (limR lim) 0))
    (hQ : ∀ T G', T 1 = .slice B xs.length d → T 4 = .slice C fixed.length e → T 11 = .slice (some ⟨bS, 0, none⟩) xs.length cS → T 12 = .slice (some ⟨bW, 0, none⟩) xs.length cW →
      AvG G1 G' bS bW xs.length rS rW (avS N.edges xs own (limR lim) N.edges.length) (avW N.edges xs own (limR lim) N.edges.length) → Q (.ex 2) T G') : gLoop (gW Try.prog c_spec_l18Step_l1) Q T G' := by
  have hn1 := hn.1
  have hn4 := hn.2.2.2
  have hx1 := hx.1
  have hq := rd_some h.f0
  refine gLoop_intro (fun m T G' => ∃ k : Nat, T 0 = .pointer q ∧ T 1 = .slice B xs.length d ∧ T 3 = .int .i64 lim ∧ T 4 = .slice C fixed.length e ∧ T 11 = .slice (some ⟨bS, 0, none⟩) xs.length cS ∧ T 12 = .slice (some ⟨bW, 0, none⟩) xs.length cW ∧
    T 14 = .int .i64 k ∧ m + k = N.edges.length ∧ k ≤ N.edges.length ∧ AvG G1 G' bS bW xs.length rS rW (avS N.edges xs own (limR lim) k) (avW N.edges xs own (limR lim) k))
    N.edges.length ⟨0, e0, e1, e3, e4, e11, e12, e14, by omega, by omega, hA⟩ ?_
  rintro m T G' ⟨k, e0, e1, e3, e4, e11, e12, e14, hm, hkm, hA⟩
  have hh := h.edges.sub hA.sub
  have f1 := rd_sub hA.sub h.f1
  have hsn := hh.sn
  have p0 := hh.r0
  have p1 := hh.r1
  have p2 := hh.r2
  simp (maxSteps := 300000) (disch := omega) only [gs, gs2, gs3, ↓reduceIte, Nat.reduceEqDiff, Nat.mul_one, Nat.add_zero, Nat.zero_add, Nat.zero_mul, Int.toNat_natCast, Int.reduceToNat, Nat.reduceMul, Nat.reduceAdd, decide_true, decide_false, Bool.not_true, Bool.not_false, true_and, and_true, List.map_cons, List.map_nil, List.nil_append, List.cons_append, List.append_nil, Option.map_some, Option.bind_some, List.getElem?_cons_zero, List.getElem?_cons_succ, Bool.false_eq_true, not_true_eq_false, not_false_eq_true, List.contains_cons, List.contains_nil, Nat.reduceBEq, Bool.true_or, Bool.false_or, Bool.or_true, List.set_cons_zero, List.set_cons_succ, List.length_cons, List.length_nil, isLd, Bool.true_and, Bool.false_and, Bool.and_true, Bool.and_false, e0, e1, e3, e4, e11, e12, e14, f1]
  by_cases hk : (k : Int) < N.edges.length
  · simp (maxSteps := 300000) (disch := omega) only [gs, gs2, gs3, ↓reduceIte, Nat.reduceEqDiff, Nat.mul_one, Nat.add_zero, Nat.zero_add, Nat.zero_mul, Int.toNat_natCast, Int.reduceToNat, Nat.reduceMul, Nat.reduceAdd, decide_true, decide_false, Bool.not_true, Bool.not_false, true_and, and_true, List.map_cons, List.map_nil, List.nil_append, List.cons_append, List.append_nil, Option.map_some, Option.bind_some, List.getElem?_cons_zero, List.getElem?_cons_succ, Bool.false_eq_true, not_true_eq_false, not_false_eq_true, List.contains_cons, List.contains_nil, Nat.reduceBEq, Bool.true_or, Bool.false_or, Bool.or_true, List.set_cons_zero, List.set_cons_succ, List.length_cons, List.length_nil, isLd, Bool.true_and, Bool.false_and, Bool.and_true, Bool.and_false, hk, e0, e1, e3, e4, e11, e12, e14, f1, p0, p1, p2]
    intro b15 hb15
    simp (maxSteps := 300000) (disch := omega) only [gs, gs2, gs3, ↓reduceIte, Nat.reduceEqDiff, Nat.mul_one, Nat.add_zero, Nat.zero_add, Nat.zero_mul, Int.toNat_natCast, Int.reduceToNat, Nat.reduceMul, Nat.reduceAdd, decide_true, decide_false, Bool.not_true, Bool.not_false, true_and, and_true, List.map_cons, List.map_nil, List.nil_append, List.cons_append, List.append_nil, Option.map_some, Option.bind_some, List.getElem?_cons_zero, List.getElem?_cons_succ, Bool.false_eq_true, not_true_eq_false, not_false_eq_true, List.contains_cons, List.contains_nil, Nat.reduceBEq, Bool.true_or, Bool.false_or, Bool.or_true, List.set_cons_zero, List.set_cons_succ, List.length_cons, List.length_nil, isLd, Bool.true_and, Bool.false_and, Bool.and_true, Bool.and_false, e0, e1, e3, e4, e11, e12, e14]
    refine st_fresh (vs := c3 (N.edges.getD k z3)) rfl rfl rfl (c3_one _) ?_
    have hb1 : G1 b15 = none := hA.sub.none hb15
    have hB := hA.boxed hb15 ⟨c3 (N.edges.getD k z3), true⟩
    have sH := Sub.put hb1 ⟨c3 (N.edges.getD k z3), true⟩
    have q0 : rd (put G1 b15 ⟨c3 (N.edges.getD k z3), true⟩) (some ⟨b15, 0, none⟩) = some (.int .i64 (N.edges.getD k z3).1) := rd_box _ _ _ 0 _ rfl
    have q1 : rd (put G1 b15 ⟨c3 (N.edges.getD k z3), true⟩) (some ⟨b15, 1, none⟩) = some (.int .i64 (N.edges.getD k z3).2.1) := rd_box _ _ _ 1 _ rfl
    have q2 : rd (put G1 b15 ⟨c3 (N.edges.getD k z3), true⟩) (some ⟨b15, 2, none⟩) = some (.int .i64 (N.edges.getD k z3).2.2) := rd_box _ _ _ 2 _ rfl
    have hfH := hf.sub sH
    clear p0 p1 p2 f1
    revert hB sH q0 q1 q2 hfH
    generalize put G1 b15 ⟨c3 (N.edges.getD k z3), true⟩ = H
    generalize put G' b15 ⟨c3 (N.edges.getD k z3), true⟩ = G2
    intro hB sH q0 q1 q2 hfH
    obtain ⟨o1, o2, o3, o4⟩ := hn.2.1 k (by omega)
    have a1 := av_bd hn hx ho (lim := limR lim) k hkm (N.edges.getD k z3).1 (by omega) (by omega)
    have a2 := av_bd hn hx ho (lim := limR lim) k hkm (N.edges.getD k z3).2.1 (by omega) (by omega)
    have v1 := xg_bd hx (v := (N.edges.getD k z3).1) (by omega)
    have v2 := xg_bd hx (v := (N.edges.getD k z3).2.1) (by omega)
    have m1 := mul_bd (by omega : 0 ≤ (N.edges.getD k z3).2.2) v1
    have m2 := mul_bd (by omega : 0 ≤ (N.edges.getD k z3).2.2) v2
    have hna := near_ref hn hx (k := k) (by omega) (lim := lim)
    have hyS := avS_yes (es := N.edges) (x := xs) (own := own) (lim := limR lim) (k := k)
    have hyW := avW_yes (es := N.edges) (x := xs) (own := own) (lim := limR lim) (k := k)
    have hno := av_no (es := N.edges) (x := xs) (own := own) (lim := limR lim) (k := k)
    generalize N.edges.getD k z3 = E at *
    generalize avS N.edges xs own (limR lim) k = S at *
    generalize avW N.edges xs own (limR lim) k = W at *
    unfold xg at v1 v2 m1 m2
    have u := (hfH.sub hB.sub).rd
    have hsu := (hfH.sub hB.sub).sn
    have r0 := rd_sub hB.sub q0
    have r1 := rd_sub hB.sub q1
    have r2 := rd_sub hB.sub q2
    simp (maxSteps := 300000) (disch := omega) only [gs, gs2, gs3, ↓reduceIte, Nat.reduceEqDiff, Nat.mul_one, Nat.add_zero, Nat.zero_add, Nat.zero_mul, Int.toNat_natCast, Int.reduceToNat, Nat.reduceMul, Nat.reduceAdd, decide_true, decide_false, Bool.not_true, Bool.not_false, true_and, and_true, List.map_cons, List.map_nil, List.nil_append, List.cons_append, List.append_nil, Option.map_some, Option.bind_some, List.getElem?_cons_zero, List.getElem?_cons_succ, Bool.false_eq_true, not_true_eq_false, not_false_eq_true, List.contains_cons, List.contains_nil, Nat.reduceBEq, Bool.true_or, Bool.false_or, Bool.or_true, List.set_cons_zero, List.set_cons_succ, List.length_cons, List.length_nil, isLd, Bool.true_and, Bool.false_and, Bool.and_true, Bool.and_false, e0, e1, e3, e4, e11, e12, e14, u, r0, r1, r2]
    refine spec_l00Max_ok _ _ ?_
    simp (maxSteps := 300000) (disch := omega) only [gs, gs2, gs3, ↓reduceIte, Nat.reduceEqDiff, Nat.mul_one, Nat.add_zero, Nat.zero_add, Nat.zero_mul, Int.toNat_natCast, Int.reduceToNat, Nat.reduceMul, Nat.reduceAdd, decide_true, decide_false, Bool.not_true, Bool.not_false, true_and, and_true, List.map_cons, List.map_nil, List.nil_append, List.cons_append, List.append_nil, Option.map_some, Option.bind_some, List.getElem?_cons_zero, List.getElem?_cons_succ, Bool.false_eq_true, not_true_eq_false, not_false_eq_true, List.contains_cons, List.contains_nil, Nat.reduceBEq, Bool.true_or, Bool.false_or, Bool.or_true, List.set_cons_zero, List.set_cons_succ, List.length_cons, List.length_nil, isLd, Bool.true_and, Bool.false_and, Bool.and_true, Bool.and_false, e0, e1, e3, e4, e11, e12, e14, u, r0, r1, r2]
    generalize hD : max (xs.getD E.1.toNat 0 - xs.getD E.2.1.toNat 0) (xs.getD E.2.1.toNat 0 - xs.getD E.1.toNat 0) = D at *
    by_cases g : nearE xs (limR lim) E
    · by_cases gl : 0 ≤ lim
      · have gd : ¬ lim < D := fun x => hna.1 ⟨gl, x⟩ g
        have c0 := cell_rd hB.s (v := E.1) (by omega) (by omega)
        simp (maxSteps := 300000) (disch := omega) only [gs, gs2, gs3, ↓reduceIte, Nat.reduceEqDiff, Nat.mul_one, Nat.add_zero, Nat.zero_add, Nat.zero_mul, Int.toNat_natCast, Int.reduceToNat, Nat.reduceMul, Nat.reduceAdd, decide_true, decide_false, Bool.not_true, Bool.not_false, true_and, and_true, List.map_cons, List.map_nil, List.nil_append, List.cons_append, List.append_nil, Option.map_some, Option.bind_some, List.getElem?_cons_zero, List.getElem?_cons_succ, Bool.false_eq_true, not_true_eq_false, not_false_eq_true, List.contains_cons, List.contains_nil, Nat.reduceBEq, Bool.true_or, Bool.false_or, Bool.or_true, List.set_cons_zero, List.set_cons_succ, List.length_cons, List.length_nil, isLd, Bool.true_and, Bool.false_and, Bool.and_true, Bool.and_false, gl, gd, e0, e1, e3, e4, e11, e12, e14, u, r0, r1, r2, c0]
        refine hB.stS (v := E.1) rfl (by omega) (by omega) fun G3 hC => ?_
        rw [add_eq] at hC
        have u := (hfH.sub hC.sub).rd
        have hsu := (hfH.sub hC.sub).sn
        have r0 := rd_sub hC.sub q0
        have r1 := rd_sub hC.sub q1
        have r2 := rd_sub hC.sub q2
        have c0 := cell_rd hC.s (v := E.2.1) (by omega) (by omega)
        have n1 : addAt S E.1 (E.2.2 * xs.getD E.2.1.toNat 0) E.2.1 = S E.2.1 := addAt_ne (by omega)
        simp (maxSteps := 300000) (disch := omega) only [gs, gs2, gs3, ↓reduceIte, Nat.reduceEqDiff, Nat.mul_one, Nat.add_zero, Nat.zero_add, Nat.zero_mul, Int.toNat_natCast, Int.reduceToNat, Nat.reduceMul, Nat.reduceAdd, decide_true, decide_false, Bool.not_true, Bool.not_false, true_and, and_true, List.map_cons, List.map_nil, List.nil_append, List.cons_append, List.append_nil, Option.map_some, Option.bind_some, List.getElem?_cons_zero, List.getElem?_cons_succ, Bool.false_eq_true, not_true_eq_false, not_false_eq_true, List.contains_cons, List.contains_nil, Nat.reduceBEq, Bool.true_or, Bool.false_or, Bool.or_true, List.set_cons_zero, List.set_cons_succ, List.length_cons, List.length_nil, isLd, Bool.true_and, Bool.false_and, Bool.and_true, Bool.and_false, e0, e1, e3, e4, e11, e12, e14, u, r0, r1, r2, c0]
        refine hC.stS (v := E.2.1) rfl (by omega) (by omega) fun G4 hD => ?_
        rw [add_eq] at hD
        have r0 := rd_sub hD.sub q0
        have r1 := rd_sub hD.sub q1
        have r2 := rd_sub hD.sub q2
        have c0 := cell_rd hD.w (v := E.1) (by omega) (by omega)
        simp (maxSteps := 300000) (disch := omega) only [gs, gs2, gs3, ↓reduceIte, Nat.reduceEqDiff, Nat.mul_one, Nat.add_zero, Nat.zero_add, Nat.zero_mul, Int.toNat_natCast, Int.reduceToNat, Nat.reduceMul, Nat.reduceAdd, decide_true, decide_false, Bool.not_true, Bool.not_false, true_and, and_true, List.map_cons, List.map_nil, List.nil_append, List.cons_append, List.append_nil, Option.map_some, Option.bind_some, List.getElem?_cons_zero, List.getElem?_cons_succ, Bool.false_eq_true, not_true_eq_false, not_false_eq_true, List.contains_cons, List.contains_nil, Nat.reduceBEq, Bool.true_or, Bool.false_or, Bool.or_true, List.set_cons_zero, List.set_cons_succ, List.length_cons, List.length_nil, isLd, Bool.true_and, Bool.false_and, Bool.and_true, Bool.and_false, e0, e1, e3, e4, e11, e12, e14, r0, r1, r2, c0]
        refine hD.stW (v := E.1) rfl (by omega) (by omega) fun G5 hE => ?_
        rw [add_eq] at hE
        have r0 := rd_sub hE.sub q0
        have r1 := rd_sub hE.sub q1
        have r2 := rd_sub hE.sub q2
        have c0 := cell_rd hE.w (v := E.2.1) (by omega) (by omega)
        have n2 : addAt W E.1 E.2.2 E.2.1 = W E.2.1 := addAt_ne (by omega)
        simp (maxSteps := 300000) (disch := omega) only [gs, gs2, gs3, ↓reduceIte, Nat.reduceEqDiff, Nat.mul_one, Nat.add_zero, Nat.zero_add, Nat.zero_mul, Int.toNat_natCast, Int.reduceToNat, Nat.reduceMul, Nat.reduceAdd, decide_true, decide_false, Bool.not_true, Bool.not_false, true_and, and_true, List.map_cons, List.map_nil, List.nil_append, List.cons_append, List.append_nil, Option.map_some, Option.bind_some, List.getElem?_cons_zero, List.getElem?_cons_succ, Bool.false_eq_true, not_true_eq_false, not_false_eq_true, List.contains_cons, List.contains_nil, Nat.reduceBEq, Bool.true_or, Bool.false_or, Bool.or_true, List.set_cons_zero, List.set_cons_succ, List.length_cons, List.length_nil, isLd, Bool.true_and, Bool.false_and, Bool.and_true, Bool.and_false, e0, e1, e3, e4, e11, e12, e14, r0, r1, r2, c0]
        refine hE.stW (v := E.2.1) rfl (by omega) (by omega) fun G6 hF => ?_
        rw [add_eq] at hF
        simp (maxSteps := 300000) (disch := omega) only [gs, gs2, gs3, ↓reduceIte, Nat.reduceEqDiff, Nat.mul_one, Nat.add_zero, Nat.zero_add, Nat.zero_mul, Int.toNat_natCast, Int.reduceToNat, Nat.reduceMul, Nat.reduceAdd, decide_true, decide_false, Bool.not_true, Bool.not_false, true_and, and_true, List.map_cons, List.map_nil, List.nil_append, List.cons_append, List.append_nil, Option.map_some, Option.bind_some, List.getElem?_cons_zero, List.getElem?_cons_succ, Bool.false_eq_true, not_true_eq_false, not_false_eq_true, List.contains_cons, List.contains_nil, Nat.reduceBEq, Bool.true_or, Bool.false_or, Bool.or_true, List.set_cons_zero, List.set_cons_succ, List.length_cons, List.length_nil, isLd, Bool.true_and, Bool.false_and, Bool.and_true, Bool.and_false, e0, e1, e3, e4, e11, e12, e14]
        exact ⟨m - 1, by omega, G6, Sub.refl _, k + 1, rfl, by omega, by omega, by rw [hyS g, hyW g]; exact hF.unbox sH⟩
      · have c0 := cell_rd hB.s (v := E.1) (by omega) (by omega)
        simp (maxSteps := 300000) (disch := omega) only [gs, gs2, gs3, ↓reduceIte, Nat.reduceEqDiff, Nat.mul_one, Nat.add_zero, Nat.zero_add, Nat.zero_mul, Int.toNat_natCast, Int.reduceToNat, Nat.reduceMul, Nat.reduceAdd, decide_true, decide_false, Bool.not_true, Bool.not_false, true_and, and_true, List.map_cons, List.map_nil, List.nil_append, List.cons_append, List.append_nil, Option.map_some, Option.bind_some, List.getElem?_cons_zero, List.getElem?_cons_succ, Bool.false_eq_true, not_true_eq_false, not_false_eq_true, List.contains_cons, List.contains_nil, Nat.reduceBEq, Bool.true_or, Bool.false_or, Bool.or_true, List.set_cons_zero, List.set_cons_succ, List.length_cons, List.length_nil, isLd, Bool.true_and, Bool.false_and, Bool.and_true, Bool.and_false, gl, e0, e1, e3, e4, e11, e12, e14, u, r0, r1, r2, c0]
        refine hB.stS (v := E.1) rfl (by omega) (by omega) fun G3 hC => ?_
        rw [add_eq] at hC
        have u := (hfH.sub hC.sub).rd
        have hsu := (hfH.sub hC.sub).sn
        have r0 := rd_sub hC.sub q0
        have r1 := rd_sub hC.sub q1
        have r2 := rd_sub hC.sub q2
        have c0 := cell_rd hC.s (v := E.2.1) (by omega) (by omega)
        have n1 : addAt S E.1 (E.2.2 * xs.getD E.2.1.toNat 0) E.2.1 = S E.2.1 := addAt_ne (by omega)
        simp (maxSteps := 300000) (disch := omega) only [gs, gs2, gs3, ↓reduceIte, Nat.reduceEqDiff, Nat.mul_one, Nat.add_zero, Nat.zero_add, Nat.zero_mul, Int.toNat_natCast, Int.reduceToNat, Nat.reduceMul, Nat.reduceAdd, decide_true, decide_false, Bool.not_true, Bool.not_false, true_and, and_true, List.map_cons, List.map_nil, List.nil_append, List.cons_append, List.append_nil, Option.map_some, Option.bind_some, List.getElem?_cons_zero, List.getElem?_cons_succ, Bool.false_eq_true, not_true_eq_false, not_false_eq_true, List.contains_cons, List.contains_nil, Nat.reduceBEq, Bool.true_or, Bool.false_or, Bool.or_true, List.set_cons_zero, List.set_cons_succ, List.length_cons, List.length_nil, isLd, Bool.true_and, Bool.false_and, Bool.and_true, Bool.and_false, e0, e1, e3, e4, e11, e12, e14, u, r0, r1, r2, c0]
        refine hC.stS (v := E.2.1) rfl (by omega) (by omega) fun G4 hD => ?_
        rw [add_eq] at hD
        have r0 := rd_sub hD.sub q0
        have r1 := rd_sub hD.sub q1
        have r2 := rd_sub hD.sub q2
        have c0 := cell_rd hD.w (v := E.1) (by omega) (by omega)
        simp (maxSteps := 300000) (disch := omega) only [gs, gs2, gs3, ↓reduceIte, Nat.reduceEqDiff, Nat.mul_one, Nat.add_zero, Nat.zero_add, Nat.zero_mul, Int.toNat_natCast, Int.reduceToNat, Nat.reduceMul, Nat.reduceAdd, decide_true, decide_false, Bool.not_true, Bool.not_false, true_and, and_true, List.map_cons, List.map_nil, List.nil_append, List.cons_append, List.append_nil, Option.map_some, Option.bind_some, List.getElem?_cons_zero, List.getElem?_cons_succ, Bool.false_eq_true, not_true_eq_false, not_false_eq_true, List.contains_cons, List.contains_nil, Nat.reduceBEq, Bool.true_or, Bool.false_or, Bool.or_true, List.set_cons_zero, List.set_cons_succ, List.length_cons, List.length_nil, isLd, Bool.true_and, Bool.false_and, Bool.and_true, Bool.and_false, e0, e1, e3, e4, e11, e12, e14, r0, r1, r2, c0]
        refine hD.stW (v := E.1) rfl (by omega) (by omega) fun G5 hE => ?_
        rw [add_eq] at hE
        have r0 := rd_sub hE.sub q0
        have r1 := rd_sub hE.sub q1
        have r2 := rd_sub hE.sub q2
        have c0 := cell_rd hE.w (v := E.2.1) (by omega) (by omega)
        have n2 : addAt W E.1 E.2.2 E.2.1 = W E.2.1 := addAt_ne (by omega)
        simp (maxSteps := 300000) (disch := omega) only [gs, gs2, gs3, ↓reduceIte, Nat.reduceEqDiff, Nat.mul_one, Nat.add_zero, Nat.zero_add, Nat.zero_mul, Int.toNat_natCast, Int.reduceToNat, Nat.reduceMul, Nat.reduceAdd, decide_true, decide_false, Bool.not_true, Bool.not_false, true_and, and_true, List.map_cons, List.map_nil, List.nil_append, List.cons_append, List.append_nil, Option.map_some, Option.bind_some, List.getElem?_cons_zero, List.getElem?_cons_succ, Bool.false_eq_true, not_true_eq_false, not_false_eq_true, List.contains_cons, List.contains_nil, Nat.reduceBEq, Bool.true_or, Bool.false_or, Bool.or_true, List.set_cons_zero, List.set_cons_succ, List.length_cons, List.length_nil, isLd, Bool.true_and, Bool.false_and, Bool.and_true, Bool.and_false, e0, e1, e3, e4, e11, e12, e14, r0, r1, r2, c0]
        refine hE.stW (v := E.2.1) rfl (by omega) (by omega) fun G6 hF => ?_
        rw [add_eq] at hF
        simp (maxSteps := 300000) (disch := omega) only [gs, gs2, gs3, ↓reduceIte, Nat.reduceEqDiff, Nat.mul_one, Nat.add_zero, Nat.zero_add, Nat.zero_mul, Int.toNat_natCast, Int.reduceToNat, Nat.reduceMul, Nat.reduceAdd, decide_true, decide_false, Bool.not_true, Bool.not_false, true_and, and_true, List.map_cons, List.map_nil, List.nil_append, List.cons_append, List.append_nil, Option.map_some, Option.bind_some, List.getElem?_cons_zero, List.getElem?_cons_succ, Bool.false_eq_true, not_true_eq_false, not_false_eq_true, List.contains_cons, List.contains_nil, Nat.reduceBEq, Bool.true_or, Bool.false_or, Bool.or_true, List.set_cons_zero, List.set_cons_succ, List.length_cons, List.length_nil, isLd, Bool.true_and, Bool.false_and, Bool.and_true, Bool.and_false, e0, e1, e3, e4, e11, e12, e14]
        exact ⟨m - 1, by omega, G6, Sub.refl _, k + 1, rfl, by omega, by omega, by rw [hyS g, hyW g]; exact hF.unbox sH⟩
    · have hc := hna.2 g
      simp (maxSteps := 300000) (disch := omega) only [gs, gs2, gs3, ↓reduceIte, Nat.reduceEqDiff, Nat.mul_one, Nat.add_zero, Nat.zero_add, Nat.zero_mul, Int.toNat_natCast, Int.reduceToNat, Nat.reduceMul, Nat.reduceAdd, decide_true, decide_false, Bool.not_true, Bool.not_false, true_and, and_true, List.map_cons, List.map_nil, List.nil_append, List.cons_append, List.append_nil, Option.map_some, Option.bind_some, List.getElem?_cons_zero, List.getElem?_cons_succ, Bool.false_eq_true, not_true_eq_false, not_false_eq_true, List.contains_cons, List.contains_nil, Nat.reduceBEq, Bool.true_or, Bool.false_or, Bool.or_true, List.set_cons_zero, List.set_cons_succ, List.length_cons, List.length_nil, isLd, Bool.true_and, Bool.false_and, Bool.and_true, Bool.and_false, hc.1, hc.2, e0, e1, e3, e4, e11, e12, e14]
      exact ⟨m - 1, by omega, G2, Sub.refl _, k + 1, rfl, by omega, by omega, by rw [(hno g).1, (hno g).2]; exact hB.unbox sH⟩
  · simp (maxSteps := 300000) (disch := omega) only [gs, gs2, gs3, ↓reduceIte, Nat.reduceEqDiff, Nat.mul_one, Nat.add_zero, Nat.zero_add, Nat.zero_mul, Int.toNat_natCast, Int.reduceToNat, Nat.reduceMul, Nat.reduceAdd, decide_true, decide_false, Bool.not_true, Bool.not_false, true_and, and_true, List.map_cons, List.map_nil, List.nil_append, List.cons_append, List.append_nil, Option.map_some, Option.bind_some, List.getElem?_cons_zero, List.getElem?_cons_succ, Bool.false_eq_true, not_true_eq_false, not_false_eq_true, List.contains_cons, List.contains_nil, Nat.reduceBEq, Bool.true_or, Bool.false_or, Bool.or_true, List.set_cons_zero, List.set_cons_succ, List.length_cons, List.length_nil, isLd, Bool.true_and, Bool.false_and, Bool.and_true, Bool.and_false, hk, e0, e1, e3, e4, e11, e12, e14, f1]
    obtain rfl : k = N.edges.length := by omega
    refine hQ _ _ ?_ ?_ ?_ ?_ hA <;> simp (maxSteps := 300000) (disch := omega) only [gs, gs2, gs3, ↓reduceIte, Nat.reduceEqDiff, Nat.mul_one, Nat.add_zero, Nat.zero_add, Nat.zero_mul, Int.toNat_natCast, Int.reduceToNat, Nat.reduceMul, Nat.reduceAdd, decide_true, decide_false, Bool.not_true, Bool.not_false, true_and, and_true, List.map_cons, List.map_nil, List.nil_append, List.cons_append, List.append_nil, Option.map_some, Option.bind_some, List.getElem?_cons_zero, List.getElem?_cons_succ, Bool.false_eq_true, not_true_eq_false, not_false_eq_true, List.contains_cons, List.contains_nil, Nat.reduceBEq, Bool.true_or, Bool.false_or, Bool.or_true, List.set_cons_zero, List.set_cons_succ, List.length_cons, List.length_nil, isLd, Bool.true_and, Bool.false_and, Bool.and_true, Bool.and_false, e1, e3, e4, e11, e12, e14]
theorem l18Step_l2 {G1 Gb G' : GH} {N : Gra} {B C An : Option Addr} {d e cn bS bW cS cW : Nat} {rS rW : List Value} {xs fixed : List Int} {own lim : Int} {T : Nat → Value} {Q : Cont} (hg : IntS G1 C e fixed) (hl2 : fixed.length < 2 ^ 40) (hx : VecOk N xs) (hn : GraOk N) (ho : 0 ≤ own ∧ own ≤ 1000)
    (e1 : T 1 = .slice B xs.length d) (e4 : T 4 = .slice C fixed.length e) (e11 : T 11 = .slice (some ⟨bS, 0, none⟩) xs.length cS) (e12 : T 12 = .slice (some ⟨bW, 0, none⟩) xs.length cW) (e17 : T 17 = .slice An xs.length cn)
    (e18 : T 18 = .int .i64 0) (hA : AvG G1 Gb bS bW xs.length rS rW (avS N.edges xs own lim N.edges.length) (avW N.edges xs own lim N.edges.length)) (hN : New Gb G' An cn (xs.map I64) 1 xs.length)
    (hQ : ∀ T G', T 17 = .slice An xs.length cn → New Gb G' An cn ((avStep N.edges own lim fixed xs).map I64) 1 xs.length → Q (.ex 4) T G') : gLoop (gW Try.prog c_spec_l18Step_l2) Q T G' := by
  have hn1 := hn.1
  have hn4 := hn.2.2.2
  have hx1 := hx.1
  refine gLoop_intro (fun m T G' => ∃ k : Nat, T 1 = .slice B xs.length d ∧ T 4 = .slice C fixed.length e ∧ T 11 = .slice (some ⟨bS, 0, none⟩) xs.length cS ∧ T 12 = .slice (some ⟨bW, 0, none⟩) xs.length cW ∧ T 17 = .slice An xs.length cn ∧
    T 18 = .int .i64 k ∧ m + k = xs.length ∧ k ≤ xs.length ∧ New Gb G' An cn ((mapR (avF N.edges xs own lim fixed) k ++ xs.drop k).map I64) 1 xs.length)
    xs.length ⟨0, e1, e4, e11, e12, e17, e18, by omega, by omega, by simpa [mapR] using hN⟩ ?_
  rintro m T G' ⟨k, e1, e4, e11, e12, e17, e18, hm, hkm, hN⟩
  have hAu := hA.up hN.sub
  simp (maxSteps := 300000) (disch := omega) only [gs, gs2, gs3, ↓reduceIte, Nat.reduceEqDiff, Nat.mul_one, Nat.add_zero, Nat.zero_add, Nat.zero_mul, Int.toNat_natCast, Int.reduceToNat, Nat.reduceMul, Nat.reduceAdd, decide_true, decide_false, Bool.not_true, Bool.not_false, true_and, and_true, List.map_cons, List.map_nil, List.nil_append, List.cons_append, List.append_nil, Option.map_some, Option.bind_some, List.getElem?_cons_zero, List.getElem?_cons_succ, Bool.false_eq_true, not_true_eq_false, not_false_eq_true, List.contains_cons, List.contains_nil, Nat.reduceBEq, Bool.true_or, Bool.false_or, Bool.or_true, List.set_cons_zero, List.set_cons_succ, List.length_cons, List.length_nil, isLd, Bool.true_and, Bool.false_and, Bool.and_true, Bool.and_false, e1, e4, e11, e12, e17, e18]
  by_cases hk : (k : Int) < xs.length
  · have cS' := cell_rd hAu.s (v := (k : Int)) (by omega) (by omega)
    have cW' := cell_rd hAu.w (v := (k : Int)) (by omega) (by omega)
    rw [Int.toNat_natCast] at cS' cW'
    have a1 := av_bd hn hx ho (lim := lim) N.edges.length (Nat.le_refl _) (k : Int) (by omega) (by omega)
    have hso := hN.sn (by omega)
    have hav : ∀ y, (0 < avW N.edges xs own lim N.edges.length k ∧ ¬ (k : Int) ∈ fixed → y = nearI (avS N.edges xs own lim N.edges.length k) (avW N.edges xs own lim N.edges.length k)) → (¬ (0 < avW N.edges xs own lim N.edges.length k ∧ ¬ (k : Int) ∈ fixed) → y = xs.getD k 0) → avF N.edges xs own lim fixed k = y := fun y h1 h2 => by
      unfold avF
      by_cases hc : 0 < avW N.edges xs own lim N.edges.length k ∧ ¬ (k : Int) ∈ fixed
      · rw [if_pos hc, h1 hc]
      · rw [if_neg hc, h2 hc]; unfold xg; rw [Int.toNat_natCast]
    simp (maxSteps := 300000) (disch := omega) only [gs, gs2, gs3, ↓reduceIte, Nat.reduceEqDiff, Nat.mul_one, Nat.add_zero, Nat.zero_add, Nat.zero_mul, Int.toNat_natCast, Int.reduceToNat, Nat.reduceMul, Nat.reduceAdd, decide_true, decide_false, Bool.not_true, Bool.not_false, true_and, and_true, List.map_cons, List.map_nil, List.nil_append, List.cons_append, List.append_nil, Option.map_some, Option.bind_some, List.getElem?_cons_zero, List.getElem?_cons_succ, Bool.false_eq_true, not_true_eq_false, not_false_eq_true, List.contains_cons, List.contains_nil, Nat.reduceBEq, Bool.true_or, Bool.false_or, Bool.or_true, List.set_cons_zero, List.set_cons_succ, List.length_cons, List.length_nil, isLd, Bool.true_and, Bool.false_and, Bool.and_true, Bool.and_false, hk, e1, e4, e11, e12, e17, e18, cS', cW']
    by_cases g1 : 0 < avW N.edges xs own lim N.edges.length k
    · simp (maxSteps := 300000) (disch := omega) only [gs, gs2, gs3, ↓reduceIte, Nat.reduceEqDiff, Nat.mul_one, Nat.add_zero, Nat.zero_add, Nat.zero_mul, Int.toNat_natCast, Int.reduceToNat, Nat.reduceMul, Nat.reduceAdd, decide_true, decide_false, Bool.not_true, Bool.not_false, true_and, and_true, List.map_cons, List.map_nil, List.nil_append, List.cons_append, List.append_nil, Option.map_some, Option.bind_some, List.getElem?_cons_zero, List.getElem?_cons_succ, Bool.false_eq_true, not_true_eq_false, not_false_eq_true, List.contains_cons, List.contains_nil, Nat.reduceBEq, Bool.true_or, Bool.false_or, Bool.or_true, List.set_cons_zero, List.set_cons_succ, List.length_cons, List.length_nil, isLd, Bool.true_and, Bool.false_and, Bool.and_true, Bool.and_false, g1, e1, e4, e11, e12, e17, e18, cS', cW']
      refine spec_l00Has_ok ((hg.sub hA.sub).sub hN.sub) hl2 fun b hb => ?_
      cases b
      · have hni : ¬ (k : Int) ∈ fixed := fun x => by simpa using hb.2 x
        simp (maxSteps := 300000) (disch := omega) only [gs, gs2, gs3, ↓reduceIte, Nat.reduceEqDiff, Nat.mul_one, Nat.add_zero, Nat.zero_add, Nat.zero_mul, Int.toNat_natCast, Int.reduceToNat, Nat.reduceMul, Nat.reduceAdd, decide_true, decide_false, Bool.not_true, Bool.not_false, true_and, and_true, List.map_cons, List.map_nil, List.nil_append, List.cons_append, List.append_nil, Option.map_some, Option.bind_some, List.getElem?_cons_zero, List.getElem?_cons_succ, Bool.false_eq_true, not_true_eq_false, not_false_eq_true, List.contains_cons, List.contains_nil, Nat.reduceBEq, Bool.true_or, Bool.false_or, Bool.or_true, List.set_cons_zero, List.set_cons_succ, List.length_cons, List.length_nil, isLd, Bool.true_and, Bool.false_and, Bool.and_true, Bool.and_false, e1, e4, e11, e12, e17, e18, cS', cW']
        refine spec_l01Div_ok (by omega) (by omega) ?_
        simp (maxSteps := 300000) (disch := omega) only [gs, gs2, gs3, ↓reduceIte, Nat.reduceEqDiff, Nat.mul_one, Nat.add_zero, Nat.zero_add, Nat.zero_mul, Int.toNat_natCast, Int.reduceToNat, Nat.reduceMul, Nat.reduceAdd, decide_true, decide_false, Bool.not_true, Bool.not_false, true_and, and_true, List.map_cons, List.map_nil, List.nil_append, List.cons_append, List.append_nil, Option.map_some, Option.bind_some, List.getElem?_cons_zero, List.getElem?_cons_succ, Bool.false_eq_true, not_true_eq_false, not_false_eq_true, List.contains_cons, List.contains_nil, Nat.reduceBEq, Bool.true_or, Bool.false_or, Bool.or_true, List.set_cons_zero, List.set_cons_succ, List.length_cons, List.length_nil, isLd, Bool.true_and, Bool.false_and, Bool.and_true, Bool.and_false, e1, e4, e11, e12, e17, e18, cS', cW']
        have hF := hav _ (fun _ => rfl) (fun x => absurd ⟨g1, hni⟩ x)
        rw [← hF]
        refine hN.store (k := k) (v := .int .i64 (avF N.edges xs own lim fixed k)) (by omega) rfl fun G3 hN3 => ?_
        simp (maxSteps := 300000) (disch := omega) only [gs, gs2, gs3, ↓reduceIte, Nat.reduceEqDiff, Nat.mul_one, Nat.add_zero, Nat.zero_add, Nat.zero_mul, Int.toNat_natCast, Int.reduceToNat, Nat.reduceMul, Nat.reduceAdd, decide_true, decide_false, Bool.not_true, Bool.not_false, true_and, and_true, List.map_cons, List.map_nil, List.nil_append, List.cons_append, List.append_nil, Option.map_some, Option.bind_some, List.getElem?_cons_zero, List.getElem?_cons_succ, Bool.false_eq_true, not_true_eq_false, not_false_eq_true, List.contains_cons, List.contains_nil, Nat.reduceBEq, Bool.true_or, Bool.false_or, Bool.or_true, List.set_cons_zero, List.set_cons_succ, List.length_cons, List.length_nil, isLd, Bool.true_and, Bool.false_and, Bool.and_true, Bool.and_false, e1, e4, e11, e12, e17, e18]
        rw [set_mapR _ _ _ (by omega)] at hN3
        exact ⟨m - 1, by omega, _, Sub.refl _, k + 1, rfl, by omega, by omega, hN3⟩
      · simp (maxSteps := 300000) (disch := omega) only [gs, gs2, gs3, ↓reduceIte, Nat.reduceEqDiff, Nat.mul_one, Nat.add_zero, Nat.zero_add, Nat.zero_mul, Int.toNat_natCast, Int.reduceToNat, Nat.reduceMul, Nat.reduceAdd, decide_true, decide_false, Bool.not_true, Bool.not_false, true_and, and_true, List.map_cons, List.map_nil, List.nil_append, List.cons_append, List.append_nil, Option.map_some, Option.bind_some, List.getElem?_cons_zero, List.getElem?_cons_succ, Bool.false_eq_true, not_true_eq_false, not_false_eq_true, List.contains_cons, List.contains_nil, Nat.reduceBEq, Bool.true_or, Bool.false_or, Bool.or_true, List.set_cons_zero, List.set_cons_succ, List.length_cons, List.length_nil, isLd, Bool.true_and, Bool.false_and, Bool.and_true, Bool.and_false, e1, e4, e11, e12, e17, e18]
        have hF := hav (xs.getD k 0) (fun x => absurd (hb.1 rfl) x.2) (fun _ => rfl)
        exact ⟨m - 1, by omega, _, Sub.refl _, k + 1, rfl, by omega, by omega, by rw [keep_mapR (by omega) hF]; exact hN⟩
    · simp (maxSteps := 300000) (disch := omega) only [gs, gs2, gs3, ↓reduceIte, Nat.reduceEqDiff, Nat.mul_one, Nat.add_zero, Nat.zero_add, Nat.zero_mul, Int.toNat_natCast, Int.reduceToNat, Nat.reduceMul, Nat.reduceAdd, decide_true, decide_false, Bool.not_true, Bool.not_false, true_and, and_true, List.map_cons, List.map_nil, List.nil_append, List.cons_append, List.append_nil, Option.map_some, Option.bind_some, List.getElem?_cons_zero, List.getElem?_cons_succ, Bool.false_eq_true, not_true_eq_false, not_false_eq_true, List.contains_cons, List.contains_nil, Nat.reduceBEq, Bool.true_or, Bool.false_or, Bool.or_true, List.set_cons_zero, List.set_cons_succ, List.length_cons, List.length_nil, isLd, Bool.true_and, Bool.false_and, Bool.and_true, Bool.and_false, g1, e1, e4, e11, e12, e17, e18]
      have hF := hav (xs.getD k 0) (fun x => absurd x.1 g1) (fun _ => rfl)
      exact ⟨m - 1, by omega, _, Sub.refl _, k + 1, rfl, by omega, by omega, by rw [keep_mapR (by omega) hF]; exact hN⟩
  · simp (maxSteps := 300000) (disch := omega) only [gs, gs2, gs3, ↓reduceIte, Nat.reduceEqDiff, Nat.mul_one, Nat.add_zero, Nat.zero_add, Nat.zero_mul, Int.toNat_natCast, Int.reduceToNat, Nat.reduceMul, Nat.reduceAdd, decide_true, decide_false, Bool.not_true, Bool.not_false, true_and, and_true, List.map_cons, List.map_nil, List.nil_append, List.cons_append, List.append_nil, Option.map_some, Option.bind_some, List.getElem?_cons_zero, List.getElem?_cons_succ, Bool.false_eq_true, not_true_eq_false, not_false_eq_true, List.contains_cons, List.contains_nil, Nat.reduceBEq, Bool.true_or, Bool.false_or, Bool.or_true, List.set_cons_zero, List.set_cons_succ, List.length_cons, List.length_nil, isLd, Bool.true_and, Bool.false_and, Bool.and_true, Bool.and_false, hk, e1, e4, e11, e12, e17, e18]
    obtain rfl : k = xs.length := by omega
    refine hQ _ _ ?_ ?_
    · simp (maxSteps := 300000) (disch := omega) only [gs, gs2, gs3, ↓reduceIte, Nat.reduceEqDiff, Nat.mul_one, Nat.add_zero, Nat.zero_add, Nat.zero_mul, Int.toNat_natCast, Int.reduceToNat, Nat.reduceMul, Nat.reduceAdd, decide_true, decide_false, Bool.not_true, Bool.not_false, true_and, and_true, List.map_cons, List.map_nil, List.nil_append, List.cons_append, List.append_nil, Option.map_some, Option.bind_some, List.getElem?_cons_zero, List.getElem?_cons_succ, Bool.false_eq_true, not_true_eq_false, not_false_eq_true, List.contains_cons, List.contains_nil, Nat.reduceBEq, Bool.true_or, Bool.false_or, Bool.or_true, List.set_cons_zero, List.set_cons_succ, List.length_cons, List.length_nil, isLd, Bool.true_and, Bool.false_and, Bool.and_true, Bool.and_false, e17]
    · rw [avStep_map]
      rw [List.drop_length, List.append_nil] at hN
      exact hN
theorem spec_l18Step_ok {G : GH} {q : Option Addr} {N : Gra} {A B C : Option Addr} {c d e : Nat} {xs fixed : List Int} {own lim : Int} (h : GraP G q N A c) (hf : IntS G B d xs) (hg : IntS G C e fixed) (hl2 : fixed.length < 2 ^ 40) (hn : GraOk N) (hx : VecOk N xs) (ho : 0 ≤ own ∧ own ≤ 1000) {K : Value → GH → Prop}
    (hk : ∀ G' A' c', New G G' A' c' ((avStep N.edges own (limR lim) fixed xs).map I64) 1 xs.length → K (.slice A' xs.length c') G') : GC Try.prog 118 [.pointer q, .slice B xs.length d, .int .i64 own, .int .i64 lim, .slice C fixed.length e] G K := by
  refine GC_drop (c_spec_l18Step_i (by simp) ?_)
  have hn1 := hn.1
  have hx1 := hx.1
  simp (maxSteps := 300000) (disch := omega) only [gs, gs2, gs3, ↓reduceIte, Nat.reduceEqDiff, Nat.mul_one, Nat.add_zero, Nat.zero_add, Nat.zero_mul, Int.toNat_natCast, Int.reduceToNat, Nat.reduceMul, Nat.reduceAdd, decide_true, decide_false, Bool.not_true, Bool.not_false, true_and, and_true, List.map_cons, List.map_nil, List.nil_append, List.cons_append, List.append_nil, Option.map_some, Option.bind_some, List.getElem?_cons_zero, List.getElem?_cons_succ, Bool.false_eq_true, not_true_eq_false, not_false_eq_true, List.contains_cons, List.contains_nil, Nat.reduceBEq, Bool.true_or, Bool.false_or, Bool.or_true, List.set_cons_zero, List.set_cons_succ, List.length_cons, List.length_nil, isLd, Bool.true_and, Bool.false_and, Bool.and_true, Bool.and_false, gBs]
  refine ⟨by intro v hv; simp at hv, fun bS hbS => ?_⟩
  try simp (maxSteps := 300000) (disch := omega) only [gs, gs2, gs3, ↓reduceIte, Nat.reduceEqDiff, Nat.mul_one, Nat.add_zero, Nat.zero_add, Nat.zero_mul, Int.toNat_natCast, Int.reduceToNat, Nat.reduceMul, Nat.reduceAdd, decide_true, decide_false, Bool.not_true, Bool.not_false, true_and, and_true, List.map_cons, List.map_nil, List.nil_append, List.cons_append, List.append_nil, Option.map_some, Option.bind_some, List.getElem?_cons_zero, List.getElem?_cons_succ, Bool.false_eq_true, not_true_eq_false, not_false_eq_true, List.contains_cons, List.contains_nil, Nat.reduceBEq, Bool.true_or, Bool.false_or, Bool.or_true, List.set_cons_zero, List.set_cons_succ, List.length_cons, List.length_nil, isLd, Bool.true_and, Bool.false_and, Bool.and_true, Bool.and_false, gBs]
  refine ⟨by intro v hv; simp at hv, fun bW hbW => ?_⟩
  try simp (maxSteps := 300000) (disch := omega) only [gs, gs2, gs3, ↓reduceIte, Nat.reduceEqDiff, Nat.mul_one, Nat.add_zero, Nat.zero_add, Nat.zero_mul, Int.toNat_natCast, Int.reduceToNat, Nat.reduceMul, Nat.reduceAdd, decide_true, decide_false, Bool.not_true, Bool.not_false, true_and, and_true, List.map_cons, List.map_nil, List.nil_append, List.cons_append, List.append_nil, Option.map_some, Option.bind_some, List.getElem?_cons_zero, List.getElem?_cons_succ, Bool.false_eq_true, not_true_eq_false, not_false_eq_true, List.contains_cons, List.contains_nil, Nat.reduceBEq, Bool.true_or, Bool.false_or, Bool.or_true, List.set_cons_zero, List.set_cons_succ, List.length_cons, List.length_nil, isLd, Bool.true_and, Bool.false_and, Bool.and_true, Bool.and_false]
  refine l18Step_l0 (G1 := G) (N := N) (lim := lim) (fixed := fixed) (C := C) (A := A) (c := c) (e := e) (q := q) hf hx hn ho (by simp (maxSteps := 300000) (disch := omega) only [gs, gs2, gs3, ↓reduceIte, Nat.reduceEqDiff, Nat.mul_one, Nat.add_zero, Nat.zero_add, Nat.zero_mul, Int.toNat_natCast, Int.reduceToNat, Nat.reduceMul, Nat.reduceAdd, decide_true, decide_false, Bool.not_true, Bool.not_false, true_and, and_true, List.map_cons, List.map_nil, List.nil_append, List.cons_append, List.append_nil, Option.map_some, Option.bind_some, List.getElem?_cons_zero, List.getElem?_cons_succ, Bool.false_eq_true, not_true_eq_false, not_false_eq_true, List.contains_cons, List.contains_nil, Nat.reduceBEq, Bool.true_or, Bool.false_or, Bool.or_true, List.set_cons_zero, List.set_cons_succ, List.length_cons, List.length_nil, isLd, Bool.true_and, Bool.false_and, Bool.and_true, Bool.and_false]) (by simp (maxSteps := 300000) (disch := omega) only [gs, gs2, gs3, ↓reduceIte, Nat.reduceEqDiff, Nat.mul_one, Nat.add_zero, Nat.zero_add, Nat.zero_mul, Int.toNat_natCast, Int.reduceToNat, Nat.reduceMul, Nat.reduceAdd, decide_true, decide_false, Bool.not_true, Bool.not_false, true_and, and_true, List.map_cons, List.map_nil, List.nil_append, List.cons_append, List.append_nil, Option.map_some, Option.bind_some, List.getElem?_cons_zero, List.getElem?_cons_succ, Bool.false_eq_true, not_true_eq_false, not_false_eq_true, List.contains_cons, List.contains_nil, Nat.reduceBEq, Bool.true_or, Bool.false_or, Bool.or_true, List.set_cons_zero, List.set_cons_succ, List.length_cons, List.length_nil, isLd, Bool.true_and, Bool.false_and, Bool.and_true, Bool.and_false]) (by simp (maxSteps := 300000) (disch := omega) only [gs, gs2, gs3, ↓reduceIte, Nat.reduceEqDiff, Nat.mul_one, Nat.add_zero, Nat.zero_add, Nat.zero_mul, Int.toNat_natCast, Int.reduceToNat, Nat.reduceMul, Nat.reduceAdd, decide_true, decide_false, Bool.not_true, Bool.not_false, true_and, and_true, List.map_cons, List.map_nil, List.nil_append, List.cons_append, List.append_nil, Option.map_some, Option.bind_some, List.getElem?_cons_zero, List.getElem?_cons_succ, Bool.false_eq_true, not_true_eq_false, not_false_eq_true, List.contains_cons, List.contains_nil, Nat.reduceBEq, Bool.true_or, Bool.false_or, Bool.or_true, List.set_cons_zero, List.set_cons_succ, List.length_cons, List.length_nil, isLd, Bool.true_and, Bool.false_and, Bool.and_true, Bool.and_false]) (by simp (maxSteps := 300000) (disch := omega) only [gs, gs2, gs3, ↓reduceIte, Nat.reduceEqDiff, Nat.mul_one, Nat.add_zero, Nat.zero_add, Nat.zero_mul, Int.toNat_natCast, Int.reduceToNat, Nat.reduceMul, Nat.reduceAdd, decide_true, decide_false, Bool.not_true, Bool.not_false, true_and, and_true, List.map_cons, List.map_nil, List.nil_append, List.cons_append, List.append_nil, Option.map_some, Option.bind_some, List.getElem?_cons_zero, List.getElem?_cons_succ, Bool.false_eq_true, not_true_eq_false, not_false_eq_true, List.contains_cons, List.contains_nil, Nat.reduceBEq, Bool.true_or, Bool.false_or, Bool.or_true, List.set_cons_zero, List.set_cons_succ, List.length_cons, List.length_nil, isLd, Bool.true_and, Bool.false_and, Bool.and_true, Bool.and_false]) (by simp (maxSteps := 300000) (disch := omega) only [gs, gs2, gs3, ↓reduceIte, Nat.reduceEqDiff, Nat.mul_one, Nat.add_zero, Nat.zero_add, Nat.zero_mul, Int.toNat_natCast, Int.reduceToNat, Nat.reduceMul, Nat.reduceAdd, decide_true, decide_false, Bool.not_true, Bool.not_false, true_and, and_true, List.map_cons, List.map_nil, List.nil_append, List.cons_append, List.append_nil, Option.map_some, Option.bind_some, List.getElem?_cons_zero, List.getElem?_cons_succ, Bool.false_eq_true, not_true_eq_false, not_false_eq_true, List.contains_cons, List.contains_nil, Nat.reduceBEq, Bool.true_or, Bool.false_or, Bool.or_true, List.set_cons_zero, List.set_cons_succ, List.length_cons, List.length_nil, isLd, Bool.true_and, Bool.false_and, Bool.and_true, Bool.and_false]) (by simp (maxSteps := 300000) (disch := omega) only [gs, gs2, gs3, ↓reduceIte, Nat.reduceEqDiff, Nat.mul_one, Nat.add_zero, Nat.zero_add, Nat.zero_mul, Int.toNat_natCast, Int.reduceToNat, Nat.reduceMul, Nat.reduceAdd, decide_true, decide_false, Bool.not_true, Bool.not_false, true_and, and_true, List.map_cons, List.map_nil, List.nil_append, List.cons_append, List.append_nil, Option.map_some, Option.bind_some, List.getElem?_cons_zero, List.getElem?_cons_succ, Bool.false_eq_true, not_true_eq_false, not_false_eq_true, List.contains_cons, List.contains_nil, Nat.reduceBEq, Bool.true_or, Bool.false_or, Bool.or_true, List.set_cons_zero, List.set_cons_succ, List.length_cons, List.length_nil, isLd, Bool.true_and, Bool.false_and, Bool.and_true, Bool.and_false] <;> rfl) (by simp (maxSteps := 300000) (disch := omega) only [gs, gs2, gs3, ↓reduceIte, Nat.reduceEqDiff, Nat.mul_one, Nat.add_zero, Nat.zero_add, Nat.zero_mul, Int.toNat_natCast, Int.reduceToNat, Nat.reduceMul, Nat.reduceAdd, decide_true, decide_false, Bool.not_true, Bool.not_false, true_and, and_true, List.map_cons, List.map_nil, List.nil_append, List.cons_append, List.append_nil, Option.map_some, Option.bind_some, List.getElem?_cons_zero, List.getElem?_cons_succ, Bool.false_eq_true, not_true_eq_false, not_false_eq_true, List.contains_cons, List.contains_nil, Nat.reduceBEq, Bool.true_or, Bool.false_or, Bool.or_true, List.set_cons_zero, List.set_cons_succ, List.length_cons, List.length_nil, isLd, Bool.true_and, Bool.false_and, Bool.and_true, Bool.and_false] <;> rfl) (by simp (maxSteps := 300000) (disch := omega) only [gs, gs2, gs3, ↓reduceIte, Nat.reduceEqDiff, Nat.mul_one, Nat.add_zero, Nat.zero_add, Nat.zero_mul, Int.toNat_natCast, Int.reduceToNat, Nat.reduceMul, Nat.reduceAdd, decide_true, decide_false, Bool.not_true, Bool.not_false, true_and, and_true, List.map_cons, List.map_nil, List.nil_append, List.cons_append, List.append_nil, Option.map_some, Option.bind_some, List.getElem?_cons_zero, List.getElem?_cons_succ, Bool.false_eq_true, not_true_eq_false, not_false_eq_true, List.contains_cons, List.contains_nil, Nat.reduceBEq, Bool.true_or, Bool.false_or, Bool.or_true, List.set_cons_zero, List.set_cons_succ, List.length_cons, List.length_nil, isLd, Bool.true_and, Bool.false_and, Bool.and_true, Bool.and_false] <;> rfl) hbS hbW rfl fun T G3 bS bW cS cW rS rW e0 e1 e3 e4 e11 e12 hA => ?_
  simp (maxSteps := 300000) (disch := omega) only [gs, gs2, gs3, ↓reduceIte, Nat.reduceEqDiff, Nat.mul_one, Nat.add_zero, Nat.zero_add, Nat.zero_mul, Int.toNat_natCast, Int.reduceToNat, Nat.reduceMul, Nat.reduceAdd, decide_true, decide_false, Bool.not_true, Bool.not_false, true_and, and_true, List.map_cons, List.map_nil, List.nil_append, List.cons_append, List.append_nil, Option.map_some, Option.bind_some, List.getElem?_cons_zero, List.getElem?_cons_succ, Bool.false_eq_true, not_true_eq_false, not_false_eq_true, List.contains_cons, List.contains_nil, Nat.reduceBEq, Bool.true_or, Bool.false_or, Bool.or_true, List.set_cons_zero, List.set_cons_succ, List.length_cons, List.length_nil, isLd, Bool.true_and, Bool.false_and, Bool.and_true, Bool.and_false, e0, e1, e3, e4, e11, e12]
  refine l18Step_l1 (C := C) (e := e) (fixed := fixed) (lim := lim) (cS := cS) (cW := cW) h hf hx hn ho (by simp (maxSteps := 300000) (disch := omega) only [gs, gs2, gs3, ↓reduceIte, Nat.reduceEqDiff, Nat.mul_one, Nat.add_zero, Nat.zero_add, Nat.zero_mul, Int.toNat_natCast, Int.reduceToNat, Nat.reduceMul, Nat.reduceAdd, decide_true, decide_false, Bool.not_true, Bool.not_false, true_and, and_true, List.map_cons, List.map_nil, List.nil_append, List.cons_append, List.append_nil, Option.map_some, Option.bind_some, List.getElem?_cons_zero, List.getElem?_cons_succ, Bool.false_eq_true, not_true_eq_false, not_false_eq_true, List.contains_cons, List.contains_nil, Nat.reduceBEq, Bool.true_or, Bool.false_or, Bool.or_true, List.set_cons_zero, List.set_cons_succ, List.length_cons, List.length_nil, isLd, Bool.true_and, Bool.false_and, Bool.and_true, Bool.and_false, e0]) (by simp (maxSteps := 300000) (disch := omega) only [gs, gs2, gs3, ↓reduceIte, Nat.reduceEqDiff, Nat.mul_one, Nat.add_zero, Nat.zero_add, Nat.zero_mul, Int.toNat_natCast, Int.reduceToNat, Nat.reduceMul, Nat.reduceAdd, decide_true, decide_false, Bool.not_true, Bool.not_false, true_and, and_true, List.map_cons, List.map_nil, List.nil_append, List.cons_append, List.append_nil, Option.map_some, Option.bind_some, List.getElem?_cons_zero, List.getElem?_cons_succ, Bool.false_eq_true, not_true_eq_false, not_false_eq_true, List.contains_cons, List.contains_nil, Nat.reduceBEq, Bool.true_or, Bool.false_or, Bool.or_true, List.set_cons_zero, List.set_cons_succ, List.length_cons, List.length_nil, isLd, Bool.true_and, Bool.false_and, Bool.and_true, Bool.and_false, e1]) (by simp (maxSteps := 300000) (disch := omega) only [gs, gs2, gs3, ↓reduceIte, Nat.reduceEqDiff, Nat.mul_one, Nat.add_zero, Nat.zero_add, Nat.zero_mul, Int.toNat_natCast, Int.reduceToNat, Nat.reduceMul, Nat.reduceAdd, decide_true, decide_false, Bool.not_true, Bool.not_false, true_and, and_true, List.map_cons, List.map_nil, List.nil_append, List.cons_append, List.append_nil, Option.map_some, Option.bind_some, List.getElem?_cons_zero, List.getElem?_cons_succ, Bool.false_eq_true, not_true_eq_false, not_false_eq_true, List.contains_cons, List.contains_nil, Nat.reduceBEq, Bool.true_or, Bool.false_or, Bool.or_true, List.set_cons_zero, List.set_cons_succ, List.length_cons, List.length_nil, isLd, Bool.true_and, Bool.false_and, Bool.and_true, Bool.and_false, e3]) (by simp (maxSteps := 300000) (disch := omega) only [gs, gs2, gs3, ↓reduceIte, Nat.reduceEqDiff, Nat.mul_one, Nat.add_zero, Nat.zero_add, Nat.zero_mul, Int.toNat_natCast, Int.reduceToNat, Nat.reduceMul, Nat.reduceAdd, decide_true, decide_false, Bool.not_true, Bool.not_false, true_and, and_true, List.map_cons, List.map_nil, List.nil_append, List.cons_append, List.append_nil, Option.map_some, Option.bind_some, List.getElem?_cons_zero, List.getElem?_cons_succ, Bool.false_eq_true, not_true_eq_false, not_false_eq_true, List.contains_cons, List.contains_nil, Nat.reduceBEq, Bool.true_or, Bool.false_or, Bool.or_true, List.set_cons_zero, List.set_cons_succ, List.length_cons, List.length_nil, isLd, Bool.true_and, Bool.false_and, Bool.and_true, Bool.and_false, e4]) (by simp (maxSteps := 300000) (disch := omega) only [gs, gs2, gs3, ↓reduceIte, Nat.reduceEqDiff, Nat.mul_one, Nat.add_zero, Nat.zero_add, Nat.zero_mul, Int.toNat_natCast, Int.reduceToNat, Nat.reduceMul, Nat.reduceAdd, decide_true, decide_false, Bool.not_true, Bool.not_false, true_and, and_true, List.map_cons, List.map_nil, List.nil_append, List.cons_append, List.append_nil, Option.map_some, Option.bind_some, List.getElem?_cons_zero, List.getElem?_cons_succ, Bool.false_eq_true, not_true_eq_false, not_false_eq_true, List.contains_cons, List.contains_nil, Nat.reduceBEq, Bool.true_or, Bool.false_or, Bool.or_true, List.set_cons_zero, List.set_cons_succ, List.length_cons, List.length_nil, isLd, Bool.true_and, Bool.false_and, Bool.and_true, Bool.and_false, e11]) (by simp (maxSteps := 300000) (disch := omega) only [gs, gs2, gs3, ↓reduceIte, Nat.reduceEqDiff, Nat.mul_one, Nat.add_zero, Nat.zero_add, Nat.zero_mul, Int.toNat_natCast, Int.reduceToNat, Nat.reduceMul, Nat.reduceAdd, decide_true, decide_false, Bool.not_true, Bool.not_false, true_and, and_true, List.map_cons, List.map_nil, List.nil_append, List.cons_append, List.append_nil, Option.map_some, Option.bind_some, List.getElem?_cons_zero, List.getElem?_cons_succ, Bool.false_eq_true, not_true_eq_false, not_false_eq_true, List.contains_cons, List.contains_nil, Nat.reduceBEq, Bool.true_or, Bool.false_or, Bool.or_true, List.set_cons_zero, List.set_cons_succ, List.length_cons, List.length_nil, isLd, Bool.true_and, Bool.false_and, Bool.and_true, Bool.and_false, e12]) (by simp (maxSteps := 300000) (disch := omega) only [gs, gs2, gs3, ↓reduceIte, Nat.reduceEqDiff, Nat.mul_one, Nat.add_zero, Nat.zero_add, Nat.zero_mul, Int.toNat_natCast, Int.reduceToNat, Nat.reduceMul, Nat.reduceAdd, decide_true, decide_false, Bool.not_true, Bool.not_false, true_and, and_true, List.map_cons, List.map_nil, List.nil_append, List.cons_append, List.append_nil, Option.map_some, Option.bind_some, List.getElem?_cons_zero, List.getElem?_cons_succ, Bool.false_eq_true, not_true_eq_false, not_false_eq_true, List.contains_cons, List.contains_nil, Nat.reduceBEq, Bool.true_or, Bool.false_or, Bool.or_true, List.set_cons_zero, List.set_cons_succ, List.length_cons, List.length_nil, isLd, Bool.true_and, Bool.false_and, Bool.and_true, Bool.and_false] <;> rfl) hA fun T G4 e1 e4 e11 e12 hA => ?_
  simp (maxSteps := 300000) (disch := omega) only [gs, gs2, gs3, ↓reduceIte, Nat.reduceEqDiff, Nat.mul_one, Nat.add_zero, Nat.zero_add, Nat.zero_mul, Int.toNat_natCast, Int.reduceToNat, Nat.reduceMul, Nat.reduceAdd, decide_true, decide_false, Bool.not_true, Bool.not_false, true_and, and_true, List.map_cons, List.map_nil, List.nil_append, List.cons_append, List.append_nil, Option.map_some, Option.bind_some, List.getElem?_cons_zero, List.getElem?_cons_succ, Bool.false_eq_true, not_true_eq_false, not_false_eq_true, List.contains_cons, List.contains_nil, Nat.reduceBEq, Bool.true_or, Bool.false_or, Bool.or_true, List.set_cons_zero, List.set_cons_succ, List.length_cons, List.length_nil, isLd, Bool.true_and, Bool.false_and, Bool.and_true, Bool.and_false, e1, e4, e11, e12]
  refine spec_l00Own_ok (hf.sub hA.sub) (by omega) fun G5 An cn hN => ?_
  simp (maxSteps := 300000) (disch := omega) only [gs, gs2, gs3, ↓reduceIte, Nat.reduceEqDiff, Nat.mul_one, Nat.add_zero, Nat.zero_add, Nat.zero_mul, Int.toNat_natCast, Int.reduceToNat, Nat.reduceMul, Nat.reduceAdd, decide_true, decide_false, Bool.not_true, Bool.not_false, true_and, and_true, List.map_cons, List.map_nil, List.nil_append, List.cons_append, List.append_nil, Option.map_some, Option.bind_some, List.getElem?_cons_zero, List.getElem?_cons_succ, Bool.false_eq_true, not_true_eq_false, not_false_eq_true, List.contains_cons, List.contains_nil, Nat.reduceBEq, Bool.true_or, Bool.false_or, Bool.or_true, List.set_cons_zero, List.set_cons_succ, List.length_cons, List.length_nil, isLd, Bool.true_and, Bool.false_and, Bool.and_true, Bool.and_false, e1, e4, e11, e12]
  refine l18Step_l2 (B := B) (d := d) (lim := limR lim) (cS := cS) (cW := cW) hg hl2 hx hn ho (by simp (maxSteps := 300000) (disch := omega) only [gs, gs2, gs3, ↓reduceIte, Nat.reduceEqDiff, Nat.mul_one, Nat.add_zero, Nat.zero_add, Nat.zero_mul, Int.toNat_natCast, Int.reduceToNat, Nat.reduceMul, Nat.reduceAdd, decide_true, decide_false, Bool.not_true, Bool.not_false, true_and, and_true, List.map_cons, List.map_nil, List.nil_append, List.cons_append, List.append_nil, Option.map_some, Option.bind_some, List.getElem?_cons_zero, List.getElem?_cons_succ, Bool.false_eq_true, not_true_eq_false, not_false_eq_true, List.contains_cons, List.contains_nil, Nat.reduceBEq, Bool.true_or, Bool.false_or, Bool.or_true, List.set_cons_zero, List.set_cons_succ, List.length_cons, List.length_nil, isLd, Bool.true_and, Bool.false_and, Bool.and_true, Bool.and_false, e1]) (by simp (maxSteps := 300000) (disch := omega) only [gs, gs2, gs3, ↓reduceIte, Nat.reduceEqDiff, Nat.mul_one, Nat.add_zero, Nat.zero_add, Nat.zero_mul, Int.toNat_natCast, Int.reduceToNat, Nat.reduceMul, Nat.reduceAdd, decide_true, decide_false, Bool.not_true, Bool.not_false, true_and, and_true, List.map_cons, List.map_nil, List.nil_append, List.cons_append, List.append_nil, Option.map_some, Option.bind_some, List.getElem?_cons_zero, List.getElem?_cons_succ, Bool.false_eq_true, not_true_eq_false, not_false_eq_true, List.contains_cons, List.contains_nil, Nat.reduceBEq, Bool.true_or, Bool.false_or, Bool.or_true, List.set_cons_zero, List.set_cons_succ, List.length_cons, List.length_nil, isLd, Bool.true_and, Bool.false_and, Bool.and_true, Bool.and_false, e4]) (by simp (maxSteps := 300000) (disch := omega) only [gs, gs2, gs3, ↓reduceIte, Nat.reduceEqDiff, Nat.mul_one, Nat.add_zero, Nat.zero_add, Nat.zero_mul, Int.toNat_natCast, Int.reduceToNat, Nat.reduceMul, Nat.reduceAdd, decide_true, decide_false, Bool.not_true, Bool.not_false, true_and, and_true, List.map_cons, List.map_nil, List.nil_append, List.cons_append, List.append_nil, Option.map_some, Option.bind_some, List.getElem?_cons_zero, List.getElem?_cons_succ, Bool.false_eq_true, not_true_eq_false, not_false_eq_true, List.contains_cons, List.contains_nil, Nat.reduceBEq, Bool.true_or, Bool.false_or, Bool.or_true, List.set_cons_zero, List.set_cons_succ, List.length_cons, List.length_nil, isLd, Bool.true_and, Bool.false_and, Bool.and_true, Bool.and_false, e11]) (by simp (maxSteps := 300000) (disch := omega) only [gs, gs2, gs3, ↓reduceIte, Nat.reduceEqDiff, Nat.mul_one, Nat.add_zero, Nat.zero_add, Nat.zero_mul, Int.toNat_natCast, Int.reduceToNat, Nat.reduceMul, Nat.reduceAdd, decide_true, decide_false, Bool.not_true, Bool.not_false, true_and, and_true, List.map_cons, List.map_nil, List.nil_append, List.cons_append, List.append_nil, Option.map_some, Option.bind_some, List.getElem?_cons_zero, List.getElem?_cons_succ, Bool.false_eq_true, not_true_eq_false, not_false_eq_true, List.contains_cons, List.contains_nil, Nat.reduceBEq, Bool.true_or, Bool.false_or, Bool.or_true, List.set_cons_zero, List.set_cons_succ, List.length_cons, List.length_nil, isLd, Bool.true_and, Bool.false_and, Bool.and_true, Bool.and_false, e12]) (by simp (maxSteps := 300000) (disch := omega) only [gs, gs2, gs3, ↓reduceIte, Nat.reduceEqDiff, Nat.mul_one, Nat.add_zero, Nat.zero_add, Nat.zero_mul, Int.toNat_natCast, Int.reduceToNat, Nat.reduceMul, Nat.reduceAdd, decide_true, decide_false, Bool.not_true, Bool.not_false, true_and, and_true, List.map_cons, List.map_nil, List.nil_append, List.cons_append, List.append_nil, Option.map_some, Option.bind_some, List.getElem?_cons_zero, List.getElem?_cons_succ, Bool.false_eq_true, not_true_eq_false, not_false_eq_true, List.contains_cons, List.contains_nil, Nat.reduceBEq, Bool.true_or, Bool.false_or, Bool.or_true, List.set_cons_zero, List.set_cons_succ, List.length_cons, List.length_nil, isLd, Bool.true_and, Bool.false_and, Bool.and_true, Bool.and_false]) (by simp (maxSteps := 300000) (disch := omega) only [gs, gs2, gs3, ↓reduceIte, Nat.reduceEqDiff, Nat.mul_one, Nat.add_zero, Nat.zero_add, Nat.zero_mul, Int.toNat_natCast, Int.reduceToNat, Nat.reduceMul, Nat.reduceAdd, decide_true, decide_false, Bool.not_true, Bool.not_false, true_and, and_true, List.map_cons, List.map_nil, List.nil_append, List.cons_append, List.append_nil, Option.map_some, Option.bind_some, List.getElem?_cons_zero, List.getElem?_cons_succ, Bool.false_eq_true, not_true_eq_false, not_false_eq_true, List.contains_cons, List.contains_nil, Nat.reduceBEq, Bool.true_or, Bool.false_or, Bool.or_true, List.set_cons_zero, List.set_cons_succ, List.length_cons, List.length_nil, isLd, Bool.true_and, Bool.false_and, Bool.and_true, Bool.and_false] <;> rfl) hA hN fun T G6 e17 hN => ?_
  simp (maxSteps := 300000) (disch := omega) only [gs, gs2, gs3, ↓reduceIte, Nat.reduceEqDiff, Nat.mul_one, Nat.add_zero, Nat.zero_add, Nat.zero_mul, Int.toNat_natCast, Int.reduceToNat, Nat.reduceMul, Nat.reduceAdd, decide_true, decide_false, Bool.not_true, Bool.not_false, true_and, and_true, List.map_cons, List.map_nil, List.nil_append, List.cons_append, List.append_nil, Option.map_some, Option.bind_some, List.getElem?_cons_zero, List.getElem?_cons_succ, Bool.false_eq_true, not_true_eq_false, not_false_eq_true, List.contains_cons, List.contains_nil, Nat.reduceBEq, Bool.true_or, Bool.false_or, Bool.or_true, List.set_cons_zero, List.set_cons_succ, List.length_cons, List.length_nil, isLd, Bool.true_and, Bool.false_and, Bool.and_true, Bool.and_false, e17]
  obtain ⟨G'', s2, hN2⟩ := hN.low hA.sub
  exact ⟨G'', s2, hk _ _ _ hN2⟩
theorem impl_averageRest_ok {G : GH} {N : Gra} {A B C : Option Addr} {c d e : Nat} {xs fixed : List Int} {own : Int} (h : T3S G A c N.edges) (hf : IntS G B d xs) (hg : IntS G C e fixed) (hl2 : fixed.length < 2 ^ 40) (hn : GraOk N) (hx : VecOk N xs) (ho : 0 ≤ own ∧ own ≤ 1000) {K : Value → GH → Prop}
    (hk : restI (restF (avStep N.edges own 2000000 fixed) 1001 0 xs) K G) : GC Try.prog 125 [graV N A c, .slice B xs.length d, .int .i64 own, .slice C fixed.length e] G K := by
  refine GC_drop (c_impl_averageRest_i (by simp) ?_)
  have hn1 := hn.1
  unfold graV graC
  simp (maxSteps := 300000) (disch := omega) only [gs, gs2, gs3, ↓reduceIte, Nat.reduceEqDiff, Nat.mul_one, Nat.add_zero, Nat.zero_add, Nat.zero_mul, Int.toNat_natCast, Int.reduceToNat, Nat.reduceMul, Nat.reduceAdd, decide_true, decide_false, Bool.not_true, Bool.not_false, true_and, and_true, List.map_cons, List.map_nil, List.nil_append, List.cons_append, List.append_nil, Option.map_some, Option.bind_some, List.getElem?_cons_zero, List.getElem?_cons_succ, Bool.false_eq_true, not_true_eq_false, not_false_eq_true, List.contains_cons, List.contains_nil, Nat.reduceBEq, Bool.true_or, Bool.false_or, Bool.or_true, List.set_cons_zero, List.set_cons_succ, List.length_cons, List.length_nil, isLd, Bool.true_and, Bool.false_and, Bool.and_true, Bool.and_false]
  intro b4 hb4
  simp (maxSteps := 300000) (disch := omega) only [gs, gs2, gs3, ↓reduceIte, Nat.reduceEqDiff, Nat.mul_one, Nat.add_zero, Nat.zero_add, Nat.zero_mul, Int.toNat_natCast, Int.reduceToNat, Nat.reduceMul, Nat.reduceAdd, decide_true, decide_false, Bool.not_true, Bool.not_false, true_and, and_true, List.map_cons, List.map_nil, List.nil_append, List.cons_append, List.append_nil, Option.map_some, Option.bind_some, List.getElem?_cons_zero, List.getElem?_cons_succ, Bool.false_eq_true, not_true_eq_false, not_false_eq_true, List.contains_cons, List.contains_nil, Nat.reduceBEq, Bool.true_or, Bool.false_or, Bool.or_true, List.set_cons_zero, List.set_cons_succ, List.length_cons, List.length_nil, isLd, Bool.true_and, Bool.false_and, Bool.and_true, Bool.and_false]
  intro b6 hb6
  simp (maxSteps := 300000) (disch := omega) only [gs, gs2, gs3, ↓reduceIte, Nat.reduceEqDiff, Nat.mul_one, Nat.add_zero, Nat.zero_add, Nat.zero_mul, Int.toNat_natCast, Int.reduceToNat, Nat.reduceMul, Nat.reduceAdd, decide_true, decide_false, Bool.not_true, Bool.not_false, true_and, and_true, List.map_cons, List.map_nil, List.nil_append, List.cons_append, List.append_nil, Option.map_some, Option.bind_some, List.getElem?_cons_zero, List.getElem?_cons_succ, Bool.false_eq_true, not_true_eq_false, not_false_eq_true, List.contains_cons, List.contains_nil, Nat.reduceBEq, Bool.true_or, Bool.false_or, Bool.or_true, List.set_cons_zero, List.set_cons_succ, List.length_cons, List.length_nil, isLd, Bool.true_and, Bool.false_and, Bool.and_true, Bool.and_false]
  intro b7 hb7
  have q6 := hb6
  have q7 := hb7
  simp only [put_none] at q6 q7
  have s1 := (((Sub.refl G).skip hb4 (e := ⟨[.int .i64 N.n, .slice A N.edges.length c], true⟩)).skip q6.2 (e := ⟨[.int .i64 own], true⟩)).skip q7.2.2 (e := ⟨[.slice C fixed.length e], true⟩)
  have f0 : rd (put (put (put G b4 ⟨[.int .i64 N.n, .slice A N.edges.length c], true⟩) b6 ⟨[.int .i64 own], true⟩) b7 ⟨[.slice C fixed.length e], true⟩) (some ⟨b4, 0, none⟩) = some (.int .i64 N.n) := by
    rw [rd_put_ne _ _ _ _ _ (fun x => q7.2.1 x.symm), rd_put_ne _ _ _ _ _ (fun x => q6.1 x.symm)]; exact rd_box _ _ _ 0 _ rfl
  have f1 : rd (put (put (put G b4 ⟨[.int .i64 N.n, .slice A N.edges.length c], true⟩) b6 ⟨[.int .i64 own], true⟩) b7 ⟨[.slice C fixed.length e], true⟩) (some ⟨b4, 1, none⟩) = some (.slice A N.edges.length c) := by
    rw [rd_put_ne _ _ _ _ _ (fun x => q7.2.1 x.symm), rd_put_ne _ _ _ _ _ (fun x => q6.1 x.symm)]; exact rd_box _ _ _ 1 _ rfl
  have f6 : rd (put (put (put G b4 ⟨[.int .i64 N.n, .slice A N.edges.length c], true⟩) b6 ⟨[.int .i64 own], true⟩) b7 ⟨[.slice C fixed.length e], true⟩) (some ⟨b6, 0, none⟩) = some (.int .i64 own) := by
    rw [rd_put_ne _ _ _ _ _ (fun x => q7.1 x.symm)]; exact rd_box _ _ _ 0 _ rfl
  have f7 : rd (put (put (put G b4 ⟨[.int .i64 N.n, .slice A N.edges.length c], true⟩) b6 ⟨[.int .i64 own], true⟩) b7 ⟨[.slice C fixed.length e], true⟩) (some ⟨b7, 0, none⟩) = some (.slice C fixed.length e) := rd_box _ _ _ 0 _ rfl
  simp (maxSteps := 300000) (disch := omega) only [gs, gs2, gs3, ↓reduceIte, Nat.reduceEqDiff, Nat.mul_one, Nat.add_zero, Nat.zero_add, Nat.zero_mul, Int.toNat_natCast, Int.reduceToNat, Nat.reduceMul, Nat.reduceAdd, decide_true, decide_false, Bool.not_true, Bool.not_false, true_and, and_true, List.map_cons, List.map_nil, List.nil_append, List.cons_append, List.append_nil, Option.map_some, Option.bind_some, List.getElem?_cons_zero, List.getElem?_cons_succ, Bool.false_eq_true, not_true_eq_false, not_false_eq_true, List.contains_cons, List.contains_nil, Nat.reduceBEq, Bool.true_or, Bool.false_or, Bool.or_true, List.set_cons_zero, List.set_cons_succ, List.length_cons, List.length_nil, isLd, Bool.true_and, Bool.false_and, Bool.and_true, Bool.and_false]
  revert s1 f0 f1 f6 f7
  generalize put (put (put G b4 ⟨[.int .i64 N.n, .slice A N.edges.length c], true⟩) b6 ⟨[.int .i64 own], true⟩) b7 ⟨[.slice C fixed.length e], true⟩ = G1
  intro s1 f0 f1 f6 f7
  refine impl_rest_ok (VecOk N) (avStep N.edges own 2000000 fixed) (fun x hx => avStep_ok hn hx ho fixed) (fun x hx => by have := hx.1; omega) hx (hf.sub s1) (fun G' A' c' x s hx' hPx K' hK' => ?_) ?_
  · simp (maxSteps := 300000) (disch := omega) only [gs, gs2, gs3, ↓reduceIte, Nat.reduceEqDiff, Nat.mul_one, Nat.add_zero, Nat.zero_add, Nat.zero_mul, Int.toNat_natCast, Int.reduceToNat, Nat.reduceMul, Nat.reduceAdd, decide_true, decide_false, Bool.not_true, Bool.not_false, true_and, and_true, List.map_cons, List.map_nil, List.nil_append, List.cons_append, List.append_nil, Option.map_some, Option.bind_some, List.getElem?_cons_zero, List.getElem?_cons_succ, Bool.false_eq_true, not_true_eq_false, not_false_eq_true, List.contains_cons, List.contains_nil, Nat.reduceBEq, Bool.true_or, Bool.false_or, Bool.or_true, List.set_cons_zero, List.set_cons_succ, List.length_cons, List.length_nil, isLd, Bool.true_and, Bool.false_and, Bool.and_true, Bool.and_false]
    refine c_impl_averageRest_fn1_i (by simp) ?_
    have f0' := rd_sub s f0
    have f1' := rd_sub s f1
    have f6' := rd_sub s f6
    have f7' := rd_sub s f7
    simp (maxSteps := 300000) (disch := omega) only [gs, gs2, gs3, ↓reduceIte, Nat.reduceEqDiff, Nat.mul_one, Nat.add_zero, Nat.zero_add, Nat.zero_mul, Int.toNat_natCast, Int.reduceToNat, Nat.reduceMul, Nat.reduceAdd, decide_true, decide_false, Bool.not_true, Bool.not_false, true_and, and_true, List.map_cons, List.map_nil, List.nil_append, List.cons_append, List.append_nil, Option.map_some, Option.bind_some, List.getElem?_cons_zero, List.getElem?_cons_succ, Bool.false_eq_true, not_true_eq_false, not_false_eq_true, List.contains_cons, List.contains_nil, Nat.reduceBEq, Bool.true_or, Bool.false_or, Bool.or_true, List.set_cons_zero, List.set_cons_succ, List.length_cons, List.length_nil, isLd, Bool.true_and, Bool.false_and, Bool.and_true, Bool.and_false, f0', f1', f6', f7']
    refine impl_averaged_ok (N := N) ((h.sub s1).sub s) hx' ((hg.sub s1).sub s) hl2 hn hPx ho fun G2 A2 c2 hN => ?_
    simp (maxSteps := 300000) (disch := omega) only [gs, gs2, gs3, ↓reduceIte, Nat.reduceEqDiff, Nat.mul_one, Nat.add_zero, Nat.zero_add, Nat.zero_mul, Int.toNat_natCast, Int.reduceToNat, Nat.reduceMul, Nat.reduceAdd, decide_true, decide_false, Bool.not_true, Bool.not_false, true_and, and_true, List.map_cons, List.map_nil, List.nil_append, List.cons_append, List.append_nil, Option.map_some, Option.bind_some, List.getElem?_cons_zero, List.getElem?_cons_succ, Bool.false_eq_true, not_true_eq_false, not_false_eq_true, List.contains_cons, List.contains_nil, Nat.reduceBEq, Bool.true_or, Bool.false_or, Bool.or_true, List.set_cons_zero, List.set_cons_succ, List.length_cons, List.length_nil, isLd, Bool.true_and, Bool.false_and, Bool.and_true, Bool.and_false]
    have := hK' _ _ _ (hN.cast rfl (avStep_len _ _ _ _ _).symm)
    rw [avStep_len] at this
    exact this
  · refine ⟨fun h0 G' A' c' hN => ?_, fun h0 => ?_⟩
    · simp (maxSteps := 300000) (disch := omega) only [gs, gs2, gs3, ↓reduceIte, Nat.reduceEqDiff, Nat.mul_one, Nat.add_zero, Nat.zero_add, Nat.zero_mul, Int.toNat_natCast, Int.reduceToNat, Nat.reduceMul, Nat.reduceAdd, decide_true, decide_false, Bool.not_true, Bool.not_false, true_and, and_true, List.map_cons, List.map_nil, List.nil_append, List.cons_append, List.append_nil, Option.map_some, Option.bind_some, List.getElem?_cons_zero, List.getElem?_cons_succ, Bool.false_eq_true, not_true_eq_false, not_false_eq_true, List.contains_cons, List.contains_nil, Nat.reduceBEq, Bool.true_or, Bool.false_or, Bool.or_true, List.set_cons_zero, List.set_cons_succ, List.length_cons, List.length_nil, isLd, Bool.true_and, Bool.false_and, Bool.and_true, Bool.and_false]
      obtain ⟨G'', s2, hN2⟩ := hN.low s1
      exact ⟨G'', s2, hk.1 h0 _ _ _ hN2⟩
    · simp (maxSteps := 300000) (disch := omega) only [gs, gs2, gs3, ↓reduceIte, Nat.reduceEqDiff, Nat.mul_one, Nat.add_zero, Nat.zero_add, Nat.zero_mul, Int.toNat_natCast, Int.reduceToNat, Nat.reduceMul, Nat.reduceAdd, decide_true, decide_false, Bool.not_true, Bool.not_false, true_and, and_true, List.map_cons, List.map_nil, List.nil_append, List.cons_append, List.append_nil, Option.map_some, Option.bind_some, List.getElem?_cons_zero, List.getElem?_cons_succ, Bool.false_eq_true, not_true_eq_false, not_false_eq_true, List.contains_cons, List.contains_nil, Nat.reduceBEq, Bool.true_or, Bool.false_or, Bool.or_true, List.set_cons_zero, List.set_cons_succ, List.length_cons, List.length_nil, isLd, Bool.true_and, Bool.false_and, Bool.and_true, Bool.and_false]
      exact ⟨G, s1, hk.2 h0⟩
noncomputable def restV (N : Gra) (xs : List Int) (own : Int) (fixed : List Int) : Int × List Int × Int := if stepC N xs own fixed ≠ 0 then (0, [], stepC N xs own fixed) else if (restF (avStep N.edges own 2000000 fixed) 1001 0 xs).1 < 0 then (0, [], 3) else ((restF (avStep N.edges own 2000000 fixed) 1001 0 xs).1, (restF (avStep N.edges own 2000000 fixed) 1001 0 xs).2, 0)
theorem rest_len (N : Gra) (xs : List Int) (own : Int) (fixed : List Int) (h : xs.length ≤ 2 ^ 20) : (restV N xs own fixed).2.1.length ≤ 2 ^ 20 := by
  unfold restV; split
  · simp
  · split
    · simp
    · exact restF_inv (P := fun x => x.length ≤ 2 ^ 20) (fun x hx => by rw [avStep_len]; exact hx) _ _ _ h
theorem impl_RoundsToRest_ok {G : GH} {N : Gra} {A B C : Option Addr} {c d e : Nat} {xs fixed : List Int} {own : Int} (h : T3S G A c N.edges) (hf : IntS G B d xs) (hg : IntS G C e fixed) (hl : N.edges.length < 2 ^ 40) (hl' : xs.length < 2 ^ 40) (hl2 : fixed.length < 2 ^ 40) {K : Value → GH → Prop}
    (hk : ILI (restV N xs own fixed) K G) : GC Try.prog 49 [graV N A c, .slice B xs.length d, .int .i64 own, .slice C fixed.length e] G K := by
  refine GC_drop (c_impl_RoundsToRest_i (by simp) ?_)
  unfold graV graC
  simp (maxSteps := 300000) (disch := omega) only [gs, gs2, gs3, ↓reduceIte, Nat.reduceEqDiff, Nat.mul_one, Nat.add_zero, Nat.zero_add, Nat.zero_mul, Int.toNat_natCast, Int.reduceToNat, Nat.reduceMul, Nat.reduceAdd, decide_true, decide_false, Bool.not_true, Bool.not_false, true_and, and_true, List.map_cons, List.map_nil, List.nil_append, List.cons_append, List.append_nil, Option.map_some, Option.bind_some, List.getElem?_cons_zero, List.getElem?_cons_succ, Bool.false_eq_true, not_true_eq_false, not_false_eq_true, List.contains_cons, List.contains_nil, Nat.reduceBEq, Bool.true_or, Bool.false_or, Bool.or_true, List.set_cons_zero, List.set_cons_succ, List.length_cons, List.length_nil, isLd, Bool.true_and, Bool.false_and, Bool.and_true, Bool.and_false]
  intro b2 hb2
  simp (maxSteps := 300000) (disch := omega) only [gs, gs2, gs3, ↓reduceIte, Nat.reduceEqDiff, Nat.mul_one, Nat.add_zero, Nat.zero_add, Nat.zero_mul, Int.toNat_natCast, Int.reduceToNat, Nat.reduceMul, Nat.reduceAdd, decide_true, decide_false, Bool.not_true, Bool.not_false, true_and, and_true, List.map_cons, List.map_nil, List.nil_append, List.cons_append, List.append_nil, Option.map_some, Option.bind_some, List.getElem?_cons_zero, List.getElem?_cons_succ, Bool.false_eq_true, not_true_eq_false, not_false_eq_true, List.contains_cons, List.contains_nil, Nat.reduceBEq, Bool.true_or, Bool.false_or, Bool.or_true, List.set_cons_zero, List.set_cons_succ, List.length_cons, List.length_nil, isLd, Bool.true_and, Bool.false_and, Bool.and_true, Bool.and_false]
  have s1 := Sub.put hb2 ⟨[.int .i64 N.n, .slice A N.edges.length c], true⟩
  have f0 : rd (put G b2 ⟨[.int .i64 N.n, .slice A N.edges.length c], true⟩) (some ⟨b2, 0, none⟩) = some (.int .i64 N.n) := rd_box _ _ _ 0 _ rfl
  have f1 : rd (put G b2 ⟨[.int .i64 N.n, .slice A N.edges.length c], true⟩) (some ⟨b2, 1, none⟩) = some (.slice A N.edges.length c) := rd_box _ _ _ 1 _ rfl
  revert s1 f0 f1
  generalize put G b2 ⟨[.int .i64 N.n, .slice A N.edges.length c], true⟩ = G1
  intro s1 f0 f1
  refine impl_stepped_ok (N := N) (h.sub s1) (hf.sub s1) (hg.sub s1) hl hl' hl2 ?_
  simp (maxSteps := 300000) (disch := omega) only [gs, gs2, gs3, ↓reduceIte, Nat.reduceEqDiff, Nat.mul_one, Nat.add_zero, Nat.zero_add, Nat.zero_mul, Int.toNat_natCast, Int.reduceToNat, Nat.reduceMul, Nat.reduceAdd, decide_true, decide_false, Bool.not_true, Bool.not_false, true_and, and_true, List.map_cons, List.map_nil, List.nil_append, List.cons_append, List.append_nil, Option.map_some, Option.bind_some, List.getElem?_cons_zero, List.getElem?_cons_succ, Bool.false_eq_true, not_true_eq_false, not_false_eq_true, List.contains_cons, List.contains_nil, Nat.reduceBEq, Bool.true_or, Bool.false_or, Bool.or_true, List.set_cons_zero, List.set_cons_succ, List.length_cons, List.length_nil, isLd, Bool.true_and, Bool.false_and, Bool.and_true, Bool.and_false]
  by_cases g0 : stepC N xs own fixed = 0
  · simp (maxSteps := 300000) (disch := omega) only [gs, gs2, gs3, ↓reduceIte, Nat.reduceEqDiff, Nat.mul_one, Nat.add_zero, Nat.zero_add, Nat.zero_mul, Int.toNat_natCast, Int.reduceToNat, Nat.reduceMul, Nat.reduceAdd, decide_true, decide_false, Bool.not_true, Bool.not_false, true_and, and_true, List.map_cons, List.map_nil, List.nil_append, List.cons_append, List.append_nil, Option.map_some, Option.bind_some, List.getElem?_cons_zero, List.getElem?_cons_succ, Bool.false_eq_true, not_true_eq_false, not_false_eq_true, List.contains_cons, List.contains_nil, Nat.reduceBEq, Bool.true_or, Bool.false_or, Bool.or_true, List.set_cons_zero, List.set_cons_succ, List.length_cons, List.length_nil, isLd, Bool.true_and, Bool.false_and, Bool.and_true, Bool.and_false, eq_true g0, f0, f1]
    obtain ⟨⟨hn, hx⟩, ho, hs⟩ := stepC_zero.1 g0
    have hV : restV N xs own fixed = if (restF (avStep N.edges own 2000000 fixed) 1001 0 xs).1 < 0 then (0, [], 3) else ((restF (avStep N.edges own 2000000 fixed) 1001 0 xs).1, (restF (avStep N.edges own 2000000 fixed) 1001 0 xs).2, 0) := by unfold restV; rw [if_neg (by simp [g0])]
    have hrg := restF_range (avStep N.edges own 2000000 fixed) 1001 0 xs
    refine impl_averageRest_ok (N := N) (h.sub s1) (hf.sub s1) (hg.sub s1) hl2 hn hx ho ⟨fun h0 G' A' c' hN => ?_, fun h0 => ?_⟩
    · simp (maxSteps := 300000) (disch := omega) only [gs, gs2, gs3, ↓reduceIte, Nat.reduceEqDiff, Nat.mul_one, Nat.add_zero, Nat.zero_add, Nat.zero_mul, Int.toNat_natCast, Int.reduceToNat, Nat.reduceMul, Nat.reduceAdd, decide_true, decide_false, Bool.not_true, Bool.not_false, true_and, and_true, List.map_cons, List.map_nil, List.nil_append, List.cons_append, List.append_nil, Option.map_some, Option.bind_some, List.getElem?_cons_zero, List.getElem?_cons_succ, Bool.false_eq_true, not_true_eq_false, not_false_eq_true, List.contains_cons, List.contains_nil, Nat.reduceBEq, Bool.true_or, Bool.false_or, Bool.or_true, List.set_cons_zero, List.set_cons_succ, List.length_cons, List.length_nil, isLd, Bool.true_and, Bool.false_and, Bool.and_true, Bool.and_false, show (restF (avStep N.edges own 2000000 fixed) 1001 0 xs).1 < 0 ↔ False from ⟨fun x => by omega, False.elim⟩]
      rw [hV, if_neg (by omega)] at hk
      obtain ⟨G'', s2, hN2⟩ := hN.low s1
      exact ⟨G'', s2, hk _ _ _ hN2⟩
    · simp (maxSteps := 300000) (disch := omega) only [gs, gs2, gs3, ↓reduceIte, Nat.reduceEqDiff, Nat.mul_one, Nat.add_zero, Nat.zero_add, Nat.zero_mul, Int.toNat_natCast, Int.reduceToNat, Nat.reduceMul, Nat.reduceAdd, decide_true, decide_false, Bool.not_true, Bool.not_false, true_and, and_true, List.map_cons, List.map_nil, List.nil_append, List.cons_append, List.append_nil, Option.map_some, Option.bind_some, List.getElem?_cons_zero, List.getElem?_cons_succ, Bool.false_eq_true, not_true_eq_false, not_false_eq_true, List.contains_cons, List.contains_nil, Nat.reduceBEq, Bool.true_or, Bool.false_or, Bool.or_true, List.set_cons_zero, List.set_cons_succ, List.length_cons, List.length_nil, isLd, Bool.true_and, Bool.false_and, Bool.and_true, Bool.and_false, show ((-1 : Int) < 0) = True from eq_true (by omega)]
      exact ⟨G, s1, hk.err (by rw [hV, if_pos (by omega)])⟩
  · simp (maxSteps := 300000) (disch := omega) only [gs, gs2, gs3, ↓reduceIte, Nat.reduceEqDiff, Nat.mul_one, Nat.add_zero, Nat.zero_add, Nat.zero_mul, Int.toNat_natCast, Int.reduceToNat, Nat.reduceMul, Nat.reduceAdd, decide_true, decide_false, Bool.not_true, Bool.not_false, true_and, and_true, List.map_cons, List.map_nil, List.nil_append, List.cons_append, List.append_nil, Option.map_some, Option.bind_some, List.getElem?_cons_zero, List.getElem?_cons_succ, Bool.false_eq_true, not_true_eq_false, not_false_eq_true, List.contains_cons, List.contains_nil, Nat.reduceBEq, Bool.true_or, Bool.false_or, Bool.or_true, List.set_cons_zero, List.set_cons_succ, List.length_cons, List.length_nil, isLd, Bool.true_and, Bool.false_and, Bool.and_true, Bool.and_false, eq_false g0]
    exact ⟨G, s1, hk.err (by unfold restV; rw [if_pos g0])⟩
theorem spec_l18Rest_ok {G : GH} {q : Option Addr} {N : Gra} {A B C : Option Addr} {c d e : Nat} {xs fixed : List Int} {own : Int} (h : GraP G q N A c) (hf : IntS G B d xs) (hg : IntS G C e fixed) (hl2 : fixed.length < 2 ^ 40) (hn : GraOk N) (hx : VecOk N xs) (ho : 0 ≤ own ∧ own ≤ 1000) {K : Value → GH → Prop}
    (hk : ∀ G' A' c', New G G' A' c' ((restF (avStep N.edges own 2000000 fixed) 1001 0 xs).2.map I64) 1 (restF (avStep N.edges own 2000000 fixed) 1001 0 xs).2.length → K (.tuple [.int .i64 (restF (avStep N.edges own 2000000 fixed) 1001 0 xs).1, .slice A' (restF (avStep N.edges own 2000000 fixed) 1001 0 xs).2.length c'].toArray) G') :
    GC Try.prog 124 [.pointer q, .slice B xs.length d, .int .i64 own, .slice C fixed.length e] G K := by
  refine GC_drop (c_spec_l18Rest_i (by simp) ?_)
  have hn1 := hn.1
  have hx1 := hx.1
  simp (maxSteps := 300000) (disch := omega) only [gs, gs2, gs3, ↓reduceIte, Nat.reduceEqDiff, Nat.mul_one, Nat.add_zero, Nat.zero_add, Nat.zero_mul, Int.toNat_natCast, Int.reduceToNat, Nat.reduceMul, Nat.reduceAdd, decide_true, decide_false, Bool.not_true, Bool.not_false, true_and, and_true, List.map_cons, List.map_nil, List.nil_append, List.cons_append, List.append_nil, Option.map_some, Option.bind_some, List.getElem?_cons_zero, List.getElem?_cons_succ, Bool.false_eq_true, not_true_eq_false, not_false_eq_true, List.contains_cons, List.contains_nil, Nat.reduceBEq, Bool.true_or, Bool.false_or, Bool.or_true, List.set_cons_zero, List.set_cons_succ, List.length_cons, List.length_nil, isLd, Bool.true_and, Bool.false_and, Bool.and_true, Bool.and_false]
  refine spec_l00Own_ok hf (by omega) fun G2 Ao co hO => ?_
  simp (maxSteps := 300000) (disch := omega) only [gs, gs2, gs3, ↓reduceIte, Nat.reduceEqDiff, Nat.mul_one, Nat.add_zero, Nat.zero_add, Nat.zero_mul, Int.toNat_natCast, Int.reduceToNat, Nat.reduceMul, Nat.reduceAdd, decide_true, decide_false, Bool.not_true, Bool.not_false, true_and, and_true, List.map_cons, List.map_nil, List.nil_append, List.cons_append, List.append_nil, Option.map_some, Option.bind_some, List.getElem?_cons_zero, List.getElem?_cons_succ, Bool.false_eq_true, not_true_eq_false, not_false_eq_true, List.contains_cons, List.contains_nil, Nat.reduceBEq, Bool.true_or, Bool.false_or, Bool.or_true, List.set_cons_zero, List.set_cons_succ, List.length_cons, List.length_nil, isLd, Bool.true_and, Bool.false_and, Bool.and_true, Bool.and_false]
  refine gLoop_intro (fun m T G' => ∃ (k : Nat) (x : List Int) (A' : Option Addr) (c' : Nat) (Gb : GH), T 0 = .pointer q ∧ T 2 = .int .i64 own ∧ T 3 = .slice C fixed.length e ∧ T 10 = .slice A' x.length c' ∧ T 11 = .int .i64 k ∧ m + k = 1001 ∧ k ≤ 1001 ∧ Sub G Gb ∧ New Gb G' A' c' (x.map I64) 1 x.length ∧ VecOk N x ∧ restF (avStep N.edges own 2000000 fixed) 1001 0 xs = restF (avStep N.edges own 2000000 fixed) m k x)
    1001 ⟨0, xs, Ao, co, G, by simp (maxSteps := 300000) (disch := omega) only [gs, gs2, gs3, ↓reduceIte, Nat.reduceEqDiff, Nat.mul_one, Nat.add_zero, Nat.zero_add, Nat.zero_mul, Int.toNat_natCast, Int.reduceToNat, Nat.reduceMul, Nat.reduceAdd, decide_true, decide_false, Bool.not_true, Bool.not_false, true_and, and_true, List.map_cons, List.map_nil, List.nil_append, List.cons_append, List.append_nil, Option.map_some, Option.bind_some, List.getElem?_cons_zero, List.getElem?_cons_succ, Bool.false_eq_true, not_true_eq_false, not_false_eq_true, List.contains_cons, List.contains_nil, Nat.reduceBEq, Bool.true_or, Bool.false_or, Bool.or_true, List.set_cons_zero, List.set_cons_succ, List.length_cons, List.length_nil, isLd, Bool.true_and, Bool.false_and, Bool.and_true, Bool.and_false], by simp (maxSteps := 300000) (disch := omega) only [gs, gs2, gs3, ↓reduceIte, Nat.reduceEqDiff, Nat.mul_one, Nat.add_zero, Nat.zero_add, Nat.zero_mul, Int.toNat_natCast, Int.reduceToNat, Nat.reduceMul, Nat.reduceAdd, decide_true, decide_false, Bool.not_true, Bool.not_false, true_and, and_true, List.map_cons, List.map_nil, List.nil_append, List.cons_append, List.append_nil, Option.map_some, Option.bind_some, List.getElem?_cons_zero, List.getElem?_cons_succ, Bool.false_eq_true, not_true_eq_false, not_false_eq_true, List.contains_cons, List.contains_nil, Nat.reduceBEq, Bool.true_or, Bool.false_or, Bool.or_true, List.set_cons_zero, List.set_cons_succ, List.length_cons, List.length_nil, isLd, Bool.true_and, Bool.false_and, Bool.and_true, Bool.and_false], by simp (maxSteps := 300000) (disch := omega) only [gs, gs2, gs3, ↓reduceIte, Nat.reduceEqDiff, Nat.mul_one, Nat.add_zero, Nat.zero_add, Nat.zero_mul, Int.toNat_natCast, Int.reduceToNat, Nat.reduceMul, Nat.reduceAdd, decide_true, decide_false, Bool.not_true, Bool.not_false, true_and, and_true, List.map_cons, List.map_nil, List.nil_append, List.cons_append, List.append_nil, Option.map_some, Option.bind_some, List.getElem?_cons_zero, List.getElem?_cons_succ, Bool.false_eq_true, not_true_eq_false, not_false_eq_true, List.contains_cons, List.contains_nil, Nat.reduceBEq, Bool.true_or, Bool.false_or, Bool.or_true, List.set_cons_zero, List.set_cons_succ, List.length_cons, List.length_nil, isLd, Bool.true_and, Bool.false_and, Bool.and_true, Bool.and_false], by simp (maxSteps := 300000) (disch := omega) only [gs, gs2, gs3, ↓reduceIte, Nat.reduceEqDiff, Nat.mul_one, Nat.add_zero, Nat.zero_add, Nat.zero_mul, Int.toNat_natCast, Int.reduceToNat, Nat.reduceMul, Nat.reduceAdd, decide_true, decide_false, Bool.not_true, Bool.not_false, true_and, and_true, List.map_cons, List.map_nil, List.nil_append, List.cons_append, List.append_nil, Option.map_some, Option.bind_some, List.getElem?_cons_zero, List.getElem?_cons_succ, Bool.false_eq_true, not_true_eq_false, not_false_eq_true, List.contains_cons, List.contains_nil, Nat.reduceBEq, Bool.true_or, Bool.false_or, Bool.or_true, List.set_cons_zero, List.set_cons_succ, List.length_cons, List.length_nil, isLd, Bool.true_and, Bool.false_and, Bool.and_true, Bool.and_false], by simp (maxSteps := 300000) (disch := omega) only [gs, gs2, gs3, ↓reduceIte, Nat.reduceEqDiff, Nat.mul_one, Nat.add_zero, Nat.zero_add, Nat.zero_mul, Int.toNat_natCast, Int.reduceToNat, Nat.reduceMul, Nat.reduceAdd, decide_true, decide_false, Bool.not_true, Bool.not_false, true_and, and_true, List.map_cons, List.map_nil, List.nil_append, List.cons_append, List.append_nil, Option.map_some, Option.bind_some, List.getElem?_cons_zero, List.getElem?_cons_succ, Bool.false_eq_true, not_true_eq_false, not_false_eq_true, List.contains_cons, List.contains_nil, Nat.reduceBEq, Bool.true_or, Bool.false_or, Bool.or_true, List.set_cons_zero, List.set_cons_succ, List.length_cons, List.length_nil, isLd, Bool.true_and, Bool.false_and, Bool.and_true, Bool.and_false] <;> rfl, by omega, by omega, Sub.refl _, hO, hx, rfl⟩ ?_
  rintro m T G' ⟨k, x, A', c', Gb, e0, e2, e3, e10, e11, hm, hkm, s, hN0, hPx, he⟩
  have hx' := hN0.ints
  simp (maxSteps := 300000) (disch := omega) only [gs, gs2, gs3, ↓reduceIte, Nat.reduceEqDiff, Nat.mul_one, Nat.add_zero, Nat.zero_add, Nat.zero_mul, Int.toNat_natCast, Int.reduceToNat, Nat.reduceMul, Nat.reduceAdd, decide_true, decide_false, Bool.not_true, Bool.not_false, true_and, and_true, List.map_cons, List.map_nil, List.nil_append, List.cons_append, List.append_nil, Option.map_some, Option.bind_some, List.getElem?_cons_zero, List.getElem?_cons_succ, Bool.false_eq_true, not_true_eq_false, not_false_eq_true, List.contains_cons, List.contains_nil, Nat.reduceBEq, Bool.true_or, Bool.false_or, Bool.or_true, List.set_cons_zero, List.set_cons_succ, List.length_cons, List.length_nil, isLd, Bool.true_and, Bool.false_and, Bool.and_true, Bool.and_false, e0, e2, e3, e10, e11]
  by_cases hkk : (k : Int) ≤ 1000
  · simp (maxSteps := 300000) (disch := omega) only [gs, gs2, gs3, ↓reduceIte, Nat.reduceEqDiff, Nat.mul_one, Nat.add_zero, Nat.zero_add, Nat.zero_mul, Int.toNat_natCast, Int.reduceToNat, Nat.reduceMul, Nat.reduceAdd, decide_true, decide_false, Bool.not_true, Bool.not_false, true_and, and_true, List.map_cons, List.map_nil, List.nil_append, List.cons_append, List.append_nil, Option.map_some, Option.bind_some, List.getElem?_cons_zero, List.getElem?_cons_succ, Bool.false_eq_true, not_true_eq_false, not_false_eq_true, List.contains_cons, List.contains_nil, Nat.reduceBEq, Bool.true_or, Bool.false_or, Bool.or_true, List.set_cons_zero, List.set_cons_succ, List.length_cons, List.length_nil, isLd, Bool.true_and, Bool.false_and, Bool.and_true, Bool.and_false, hkk, e0, e2, e3, e10, e11]
    have sG := s.trans hN0.sub
    have hlx := hPx.1
    refine spec_l18Step_ok (h.sub sG) hx' (hg.sub sG) hl2 hn hPx ho fun G3 A3 c3 hN => ?_
    simp (maxSteps := 300000) (disch := omega) only [gs, gs2, gs3, ↓reduceIte, Nat.reduceEqDiff, Nat.mul_one, Nat.add_zero, Nat.zero_add, Nat.zero_mul, Int.toNat_natCast, Int.reduceToNat, Nat.reduceMul, Nat.reduceAdd, decide_true, decide_false, Bool.not_true, Bool.not_false, true_and, and_true, List.map_cons, List.map_nil, List.nil_append, List.cons_append, List.append_nil, Option.map_some, Option.bind_some, List.getElem?_cons_zero, List.getElem?_cons_succ, Bool.false_eq_true, not_true_eq_false, not_false_eq_true, List.contains_cons, List.contains_nil, Nat.reduceBEq, Bool.true_or, Bool.false_or, Bool.or_true, List.set_cons_zero, List.set_cons_succ, List.length_cons, List.length_nil, isLd, Bool.true_and, Bool.false_and, Bool.and_true, Bool.and_false, e0, e2, e3, e10, e11]
    have hlr : limR (-1) = 2000000 := rfl
    rw [hlr] at hN
    have hN' := hN.cast rfl (avStep_len N.edges own 2000000 fixed x).symm
    have hlm := avStep_len N.edges own 2000000 fixed x
    obtain ⟨m', rfl⟩ : ∃ m', m = m' + 1 := ⟨m - 1, by omega⟩
    rw [restF_succ (avStep N.edges own 2000000 fixed) m' k x] at he
    rw [show Value.slice A3 x.length c3 = .slice A3 (avStep N.edges own 2000000 fixed x).length c3 by rw [hlm]]
    refine spec_l00Same_ok hN'.ints (hx'.sub hN.sub) (by omega) ?_
    by_cases hq : avStep N.edges own 2000000 fixed x = x
    · simp (maxSteps := 300000) (disch := omega) only [gs, gs2, gs3, ↓reduceIte, Nat.reduceEqDiff, Nat.mul_one, Nat.add_zero, Nat.zero_add, Nat.zero_mul, Int.toNat_natCast, Int.reduceToNat, Nat.reduceMul, Nat.reduceAdd, decide_true, decide_false, Bool.not_true, Bool.not_false, true_and, and_true, List.map_cons, List.map_nil, List.nil_append, List.cons_append, List.append_nil, Option.map_some, Option.bind_some, List.getElem?_cons_zero, List.getElem?_cons_succ, Bool.false_eq_true, not_true_eq_false, not_false_eq_true, List.contains_cons, List.contains_nil, Nat.reduceBEq, Bool.true_or, Bool.false_or, Bool.or_true, List.set_cons_zero, List.set_cons_succ, List.length_cons, List.length_nil, isLd, Bool.true_and, Bool.false_and, Bool.and_true, Bool.and_false, eq_true hq, e0, e2, e3, e10, e11]
      rw [if_pos hq] at he
      rw [he] at hk
      obtain ⟨G4, s4, hN4⟩ := hN0.low s
      exact ⟨G4, s4.trans hN.sub, hk _ _ _ hN4⟩
    · rw [decide_eq_false hq]
      simp (maxSteps := 300000) (disch := omega) only [gs, gs2, gs3, ↓reduceIte, Nat.reduceEqDiff, Nat.mul_one, Nat.add_zero, Nat.zero_add, Nat.zero_mul, Int.toNat_natCast, Int.reduceToNat, Nat.reduceMul, Nat.reduceAdd, decide_true, decide_false, Bool.not_true, Bool.not_false, true_and, and_true, List.map_cons, List.map_nil, List.nil_append, List.cons_append, List.append_nil, Option.map_some, Option.bind_some, List.getElem?_cons_zero, List.getElem?_cons_succ, Bool.false_eq_true, not_true_eq_false, not_false_eq_true, List.contains_cons, List.contains_nil, Nat.reduceBEq, Bool.true_or, Bool.false_or, Bool.or_true, List.set_cons_zero, List.set_cons_succ, List.length_cons, List.length_nil, isLd, Bool.true_and, Bool.false_and, Bool.and_true, Bool.and_false, e0, e2, e3, e10, e11]
      rw [if_neg hq] at he
      exact ⟨m', by omega, G3, Sub.refl _, k + 1, avStep N.edges own 2000000 fixed x, A3, c3, G', rfl, rfl, by omega, by omega, sG, hN', avStep_ok hn hPx ho fixed, by rw [he]; rfl⟩
  · simp (maxSteps := 300000) (disch := omega) only [gs, gs2, gs3, ↓reduceIte, Nat.reduceEqDiff, Nat.mul_one, Nat.add_zero, Nat.zero_add, Nat.zero_mul, Int.toNat_natCast, Int.reduceToNat, Nat.reduceMul, Nat.reduceAdd, decide_true, decide_false, Bool.not_true, Bool.not_false, true_and, and_true, List.map_cons, List.map_nil, List.nil_append, List.cons_append, List.append_nil, Option.map_some, Option.bind_some, List.getElem?_cons_zero, List.getElem?_cons_succ, Bool.false_eq_true, not_true_eq_false, not_false_eq_true, List.contains_cons, List.contains_nil, Nat.reduceBEq, Bool.true_or, Bool.false_or, Bool.or_true, List.set_cons_zero, List.set_cons_succ, List.length_cons, List.length_nil, isLd, Bool.true_and, Bool.false_and, Bool.and_true, Bool.and_false, hkk, e0, e2, e3, e10, e11]
    obtain rfl : m = 0 := by omega
    have he' : restF (avStep N.edges own 2000000 fixed) 1001 0 xs = (-1, x) := he
    rw [he'] at hk
    obtain ⟨G4, s4, hN4⟩ := hN0.low s
    exact ⟨G4, s4, hk _ _ _ hN4⟩
theorem spec_RoundsToRest_ok {G : GH} {N : Gra} {A B C : Option Addr} {c d e : Nat} {xs fixed : List Int} {own : Int} (h : T3S G A c N.edges) (hf : IntS G B d xs) (hg : IntS G C e fixed) (hl : N.edges.length < 2 ^ 40) (hl' : xs.length < 2 ^ 40) (hl2 : fixed.length < 2 ^ 40) {K : Value → GH → Prop}
    (hk : ILI (restV N xs own fixed) K G) : GC Try.prog 48 [graV N A c, .slice B xs.length d, .int .i64 own, .slice C fixed.length e] G K := by
  refine GC_drop (c_spec_RoundsToRest_i (by simp) ?_)
  unfold graV
  simp (maxSteps := 300000) (disch := omega) only [gs, gs2, gs3, ↓reduceIte, Nat.reduceEqDiff, Nat.mul_one, Nat.add_zero, Nat.zero_add, Nat.zero_mul, Int.toNat_natCast, Int.reduceToNat, Nat.reduceMul, Nat.reduceAdd, decide_true, decide_false, Bool.not_true, Bool.not_false, true_and, and_true, List.map_cons, List.map_nil, List.nil_append, List.cons_append, List.append_nil, Option.map_some, Option.bind_some, List.getElem?_cons_zero, List.getElem?_cons_succ, Bool.false_eq_true, not_true_eq_false, not_false_eq_true, List.contains_cons, List.contains_nil, Nat.reduceBEq, Bool.true_or, Bool.false_or, Bool.or_true, List.set_cons_zero, List.set_cons_succ, List.length_cons, List.length_nil, isLd, Bool.true_and, Bool.false_and, Bool.and_true, Bool.and_false]
  intro b2 hb2
  simp (maxSteps := 300000) (disch := omega) only [gs, gs2, gs3, ↓reduceIte, Nat.reduceEqDiff, Nat.mul_one, Nat.add_zero, Nat.zero_add, Nat.zero_mul, Int.toNat_natCast, Int.reduceToNat, Nat.reduceMul, Nat.reduceAdd, decide_true, decide_false, Bool.not_true, Bool.not_false, true_and, and_true, List.map_cons, List.map_nil, List.nil_append, List.cons_append, List.append_nil, Option.map_some, Option.bind_some, List.getElem?_cons_zero, List.getElem?_cons_succ, Bool.false_eq_true, not_true_eq_false, not_false_eq_true, List.contains_cons, List.contains_nil, Nat.reduceBEq, Bool.true_or, Bool.false_or, Bool.or_true, List.set_cons_zero, List.set_cons_succ, List.length_cons, List.length_nil, isLd, Bool.true_and, Bool.false_and, Bool.and_true, Bool.and_false]
  have hP := GraP.box hb2 h
  have s1 := Sub.put hb2 ⟨graC N A c, true⟩
  revert hP s1
  generalize put G b2 ⟨graC N A c, true⟩ = G1
  intro hP s1
  refine spec_l18Ask_ok hP (hf.sub s1) (hg.sub s1) hl hl' hl2 ?_
  simp (maxSteps := 300000) (disch := omega) only [gs, gs2, gs3, ↓reduceIte, Nat.reduceEqDiff, Nat.mul_one, Nat.add_zero, Nat.zero_add, Nat.zero_mul, Int.toNat_natCast, Int.reduceToNat, Nat.reduceMul, Nat.reduceAdd, decide_true, decide_false, Bool.not_true, Bool.not_false, true_and, and_true, List.map_cons, List.map_nil, List.nil_append, List.cons_append, List.append_nil, Option.map_some, Option.bind_some, List.getElem?_cons_zero, List.getElem?_cons_succ, Bool.false_eq_true, not_true_eq_false, not_false_eq_true, List.contains_cons, List.contains_nil, Nat.reduceBEq, Bool.true_or, Bool.false_or, Bool.or_true, List.set_cons_zero, List.set_cons_succ, List.length_cons, List.length_nil, isLd, Bool.true_and, Bool.false_and, Bool.and_true, Bool.and_false]
  by_cases g0 : stepC N xs own fixed = 0
  · simp (maxSteps := 300000) (disch := omega) only [gs, gs2, gs3, ↓reduceIte, Nat.reduceEqDiff, Nat.mul_one, Nat.add_zero, Nat.zero_add, Nat.zero_mul, Int.toNat_natCast, Int.reduceToNat, Nat.reduceMul, Nat.reduceAdd, decide_true, decide_false, Bool.not_true, Bool.not_false, true_and, and_true, List.map_cons, List.map_nil, List.nil_append, List.cons_append, List.append_nil, Option.map_some, Option.bind_some, List.getElem?_cons_zero, List.getElem?_cons_succ, Bool.false_eq_true, not_true_eq_false, not_false_eq_true, List.contains_cons, List.contains_nil, Nat.reduceBEq, Bool.true_or, Bool.false_or, Bool.or_true, List.set_cons_zero, List.set_cons_succ, List.length_cons, List.length_nil, isLd, Bool.true_and, Bool.false_and, Bool.and_true, Bool.and_false, eq_true g0]
    obtain ⟨⟨hn, hx⟩, ho, hs⟩ := stepC_zero.1 g0
    have hV : restV N xs own fixed = if (restF (avStep N.edges own 2000000 fixed) 1001 0 xs).1 < 0 then (0, [], 3) else ((restF (avStep N.edges own 2000000 fixed) 1001 0 xs).1, (restF (avStep N.edges own 2000000 fixed) 1001 0 xs).2, 0) := by unfold restV; rw [if_neg (by simp [g0])]
    refine spec_l18Rest_ok hP (hf.sub s1) (hg.sub s1) hl2 hn hx ho fun G' A' c' hN => ?_
    simp (maxSteps := 300000) (disch := omega) only [gs, gs2, gs3, ↓reduceIte, Nat.reduceEqDiff, Nat.mul_one, Nat.add_zero, Nat.zero_add, Nat.zero_mul, Int.toNat_natCast, Int.reduceToNat, Nat.reduceMul, Nat.reduceAdd, decide_true, decide_false, Bool.not_true, Bool.not_false, true_and, and_true, List.map_cons, List.map_nil, List.nil_append, List.cons_append, List.append_nil, Option.map_some, Option.bind_some, List.getElem?_cons_zero, List.getElem?_cons_succ, Bool.false_eq_true, not_true_eq_false, not_false_eq_true, List.contains_cons, List.contains_nil, Nat.reduceBEq, Bool.true_or, Bool.false_or, Bool.or_true, List.set_cons_zero, List.set_cons_succ, List.length_cons, List.length_nil, isLd, Bool.true_and, Bool.false_and, Bool.and_true, Bool.and_false]
    by_cases g1 : (restF (avStep N.edges own 2000000 fixed) 1001 0 xs).1 < 0
    · simp (maxSteps := 300000) (disch := omega) only [gs, gs2, gs3, ↓reduceIte, Nat.reduceEqDiff, Nat.mul_one, Nat.add_zero, Nat.zero_add, Nat.zero_mul, Int.toNat_natCast, Int.reduceToNat, Nat.reduceMul, Nat.reduceAdd, decide_true, decide_false, Bool.not_true, Bool.not_false, true_and, and_true, List.map_cons, List.map_nil, List.nil_append, List.cons_append, List.append_nil, Option.map_some, Option.bind_some, List.getElem?_cons_zero, List.getElem?_cons_succ, Bool.false_eq_true, not_true_eq_false, not_false_eq_true, List.contains_cons, List.contains_nil, Nat.reduceBEq, Bool.true_or, Bool.false_or, Bool.or_true, List.set_cons_zero, List.set_cons_succ, List.length_cons, List.length_nil, isLd, Bool.true_and, Bool.false_and, Bool.and_true, Bool.and_false, g1]
      exact ⟨G, s1.trans hN.sub, hk.err (by rw [hV, if_pos g1])⟩
    · simp (maxSteps := 300000) (disch := omega) only [gs, gs2, gs3, ↓reduceIte, Nat.reduceEqDiff, Nat.mul_one, Nat.add_zero, Nat.zero_add, Nat.zero_mul, Int.toNat_natCast, Int.reduceToNat, Nat.reduceMul, Nat.reduceAdd, decide_true, decide_false, Bool.not_true, Bool.not_false, true_and, and_true, List.map_cons, List.map_nil, List.nil_append, List.cons_append, List.append_nil, Option.map_some, Option.bind_some, List.getElem?_cons_zero, List.getElem?_cons_succ, Bool.false_eq_true, not_true_eq_false, not_false_eq_true, List.contains_cons, List.contains_nil, Nat.reduceBEq, Bool.true_or, Bool.false_or, Bool.or_true, List.set_cons_zero, List.set_cons_succ, List.length_cons, List.length_nil, isLd, Bool.true_and, Bool.false_and, Bool.and_true, Bool.and_false, g1]
      rw [hV, if_neg g1] at hk
      obtain ⟨G'', s2, hN2⟩ := hN.low s1
      exact ⟨G'', s2, hk _ _ _ hN2⟩
  · simp (maxSteps := 300000) (disch := omega) only [gs, gs2, gs3, ↓reduceIte, Nat.reduceEqDiff, Nat.mul_one, Nat.add_zero, Nat.zero_add, Nat.zero_mul, Int.toNat_natCast, Int.reduceToNat, Nat.reduceMul, Nat.reduceAdd, decide_true, decide_false, Bool.not_true, Bool.not_false, true_and, and_true, List.map_cons, List.map_nil, List.nil_append, List.cons_append, List.append_nil, Option.map_some, Option.bind_some, List.getElem?_cons_zero, List.getElem?_cons_succ, Bool.false_eq_true, not_true_eq_false, not_false_eq_true, List.contains_cons, List.contains_nil, Nat.reduceBEq, Bool.true_or, Bool.false_or, Bool.or_true, List.set_cons_zero, List.set_cons_succ, List.length_cons, List.length_nil, isLd, Bool.true_and, Bool.false_and, Bool.and_true, Bool.and_false, eq_false g0]
    exact ⟨G, s1, hk.err (by unfold restV; rw [if_pos g0])⟩
theorem law_RoundsToRest {G : GH} {v0 : Value} {v1 : Value} {v2 : Value} {v3 : Value} {x0 : Gra} {x1 : List Int} {x2 : Int} {x3 : List Int} (h0 : GraphV G v0 x0) (h1 : IntsV G v1 x1) (h2 : IntV G v2 x2) (h3 : IntsV G v3 x3) : GC Try.prog 10 [v0, v1, v2, v3] G fun v _ => v = .bool true := by
  obtain ⟨A0, c0, rfl, h0, e0, l0, rn0⟩ := h0
  obtain ⟨A1, c1, rfl, h1, e1, l1⟩ := h1
  obtain ⟨rfl, e2⟩ := h2
  obtain ⟨A3, c3, rfl, h3, e3, l3⟩ := h3
  refine c_laws_FnExactRoundsToRest_i (by simp) ?_
  unfold graV graC
  simp (maxSteps := 300000) (disch := omega) only [gs, gs2, gs3, ↓reduceIte, Nat.reduceEqDiff, Nat.mul_one, Nat.add_zero, Nat.zero_add, Nat.zero_mul, Int.toNat_natCast, Int.reduceToNat, Nat.reduceMul, Nat.reduceAdd, decide_true, decide_false, Bool.not_true, Bool.not_false, true_and, and_true, List.map_cons, List.map_nil, List.nil_append, List.cons_append, List.append_nil, Option.map_some, Option.bind_some, List.getElem?_cons_zero, List.getElem?_cons_succ, Bool.false_eq_true, not_true_eq_false, not_false_eq_true, List.contains_cons, List.contains_nil, Nat.reduceBEq, Bool.true_or, Bool.false_or, Bool.or_true, List.set_cons_zero, List.set_cons_succ, List.length_cons, List.length_nil, isLd, Bool.true_and, Bool.false_and, Bool.and_true, Bool.and_false]
  have s_b := Sub.refl G
  intro p0 hp0
  generalize hG1 : put G p0 ⟨[.int .i64 x0.n, .slice A0 x0.edges.length c0], true⟩ = G1
  have t1 : Sub G G1 := hG1 ▸ Sub.put hp0 _
  have h0 := h0.sub t1
  have h1 := h1.sub t1
  have h3 := h3.sub t1
  have fa0_0 : rd G1 (some ⟨p0, 0, none⟩) = some (.int .i64 x0.n) := by rw [← hG1]; exact rd_box _ _ _ 0 _ rfl
  have fa0_1 : rd G1 (some ⟨p0, 1, none⟩) = some (.slice A0 x0.edges.length c0) := by rw [← hG1]; exact rd_box _ _ _ 1 _ rfl
  have s_b := Sub.refl G1
  have fa0_0c := rd_sub s_b fa0_0
  have fa0_1c := rd_sub s_b fa0_1
  simp (maxSteps := 300000) (disch := omega) only [gs, gs2, gs3, ↓reduceIte, Nat.reduceEqDiff, Nat.mul_one, Nat.add_zero, Nat.zero_add, Nat.zero_mul, Int.toNat_natCast, Int.reduceToNat, Nat.reduceMul, Nat.reduceAdd, decide_true, decide_false, Bool.not_true, Bool.not_false, true_and, and_true, List.map_cons, List.map_nil, List.nil_append, List.cons_append, List.append_nil, Option.map_some, Option.bind_some, List.getElem?_cons_zero, List.getElem?_cons_succ, Bool.false_eq_true, not_true_eq_false, not_false_eq_true, List.contains_cons, List.contains_nil, Nat.reduceBEq, Bool.true_or, Bool.false_or, Bool.or_true, List.set_cons_zero, List.set_cons_succ, List.length_cons, List.length_nil, isLd, Bool.true_and, Bool.false_and, Bool.and_true, Bool.and_false, fa0_0c, fa0_1c]
  by_cases g1 : (1048576 : Int) < x1.length
  · simp (maxSteps := 300000) (disch := omega) only [gs, gs2, gs3, ↓reduceIte, Nat.reduceEqDiff, Nat.mul_one, Nat.add_zero, Nat.zero_add, Nat.zero_mul, Int.toNat_natCast, Int.reduceToNat, Nat.reduceMul, Nat.reduceAdd, decide_true, decide_false, Bool.not_true, Bool.not_false, true_and, and_true, List.map_cons, List.map_nil, List.nil_append, List.cons_append, List.append_nil, Option.map_some, Option.bind_some, List.getElem?_cons_zero, List.getElem?_cons_succ, Bool.false_eq_true, not_true_eq_false, not_false_eq_true, List.contains_cons, List.contains_nil, Nat.reduceBEq, Bool.true_or, Bool.false_or, Bool.or_true, List.set_cons_zero, List.set_cons_succ, List.length_cons, List.length_nil, isLd, Bool.true_and, Bool.false_and, Bool.and_true, Bool.and_false, g1, fa0_0c, fa0_1c]
  simp (maxSteps := 300000) (disch := omega) only [gs, gs2, gs3, ↓reduceIte, Nat.reduceEqDiff, Nat.mul_one, Nat.add_zero, Nat.zero_add, Nat.zero_mul, Int.toNat_natCast, Int.reduceToNat, Nat.reduceMul, Nat.reduceAdd, decide_true, decide_false, Bool.not_true, Bool.not_false, true_and, and_true, List.map_cons, List.map_nil, List.nil_append, List.cons_append, List.append_nil, Option.map_some, Option.bind_some, List.getElem?_cons_zero, List.getElem?_cons_succ, Bool.false_eq_true, not_true_eq_false, not_false_eq_true, List.contains_cons, List.contains_nil, Nat.reduceBEq, Bool.true_or, Bool.false_or, Bool.or_true, List.set_cons_zero, List.set_cons_succ, List.length_cons, List.length_nil, isLd, Bool.true_and, Bool.false_and, Bool.and_true, Bool.and_false, g1, fa0_0c, fa0_1c]
  by_cases g3 : (1048576 : Int) < x3.length
  · simp (maxSteps := 300000) (disch := omega) only [gs, gs2, gs3, ↓reduceIte, Nat.reduceEqDiff, Nat.mul_one, Nat.add_zero, Nat.zero_add, Nat.zero_mul, Int.toNat_natCast, Int.reduceToNat, Nat.reduceMul, Nat.reduceAdd, decide_true, decide_false, Bool.not_true, Bool.not_false, true_and, and_true, List.map_cons, List.map_nil, List.nil_append, List.cons_append, List.append_nil, Option.map_some, Option.bind_some, List.getElem?_cons_zero, List.getElem?_cons_succ, Bool.false_eq_true, not_true_eq_false, not_false_eq_true, List.contains_cons, List.contains_nil, Nat.reduceBEq, Bool.true_or, Bool.false_or, Bool.or_true, List.set_cons_zero, List.set_cons_succ, List.length_cons, List.length_nil, isLd, Bool.true_and, Bool.false_and, Bool.and_true, Bool.and_false, g3, fa0_0c, fa0_1c]
  simp (maxSteps := 300000) (disch := omega) only [gs, gs2, gs3, ↓reduceIte, Nat.reduceEqDiff, Nat.mul_one, Nat.add_zero, Nat.zero_add, Nat.zero_mul, Int.toNat_natCast, Int.reduceToNat, Nat.reduceMul, Nat.reduceAdd, decide_true, decide_false, Bool.not_true, Bool.not_false, true_and, and_true, List.map_cons, List.map_nil, List.nil_append, List.cons_append, List.append_nil, Option.map_some, Option.bind_some, List.getElem?_cons_zero, List.getElem?_cons_succ, Bool.false_eq_true, not_true_eq_false, not_false_eq_true, List.contains_cons, List.contains_nil, Nat.reduceBEq, Bool.true_or, Bool.false_or, Bool.or_true, List.set_cons_zero, List.set_cons_succ, List.length_cons, List.length_nil, isLd, Bool.true_and, Bool.false_and, Bool.and_true, Bool.and_false, g3, fa0_0c, fa0_1c]
  refine laws_szGraph_ok (N := x0) ⟨by omega, by omega⟩ (by omega) fun q0 q0a q0b q0c => ?_
  simp (maxSteps := 300000) (disch := omega) only [gs, gs2, gs3, ↓reduceIte, Nat.reduceEqDiff, Nat.mul_one, Nat.add_zero, Nat.zero_add, Nat.zero_mul, Int.toNat_natCast, Int.reduceToNat, Nat.reduceMul, Nat.reduceAdd, decide_true, decide_false, Bool.not_true, Bool.not_false, true_and, and_true, List.map_cons, List.map_nil, List.nil_append, List.cons_append, List.append_nil, Option.map_some, Option.bind_some, List.getElem?_cons_zero, List.getElem?_cons_succ, Bool.false_eq_true, not_true_eq_false, not_false_eq_true, List.contains_cons, List.contains_nil, Nat.reduceBEq, Bool.true_or, Bool.false_or, Bool.or_true, List.set_cons_zero, List.set_cons_succ, List.length_cons, List.length_nil, isLd, Bool.true_and, Bool.false_and, Bool.and_true, Bool.and_false, fa0_0c, fa0_1c]
  by_cases g0 : q0 < 0
  · simp (maxSteps := 300000) (disch := omega) only [gs, gs2, gs3, ↓reduceIte, Nat.reduceEqDiff, Nat.mul_one, Nat.add_zero, Nat.zero_add, Nat.zero_mul, Int.toNat_natCast, Int.reduceToNat, Nat.reduceMul, Nat.reduceAdd, decide_true, decide_false, Bool.not_true, Bool.not_false, true_and, and_true, List.map_cons, List.map_nil, List.nil_append, List.cons_append, List.append_nil, Option.map_some, Option.bind_some, List.getElem?_cons_zero, List.getElem?_cons_succ, Bool.false_eq_true, not_true_eq_false, not_false_eq_true, List.contains_cons, List.contains_nil, Nat.reduceBEq, Bool.true_or, Bool.false_or, Bool.or_true, List.set_cons_zero, List.set_cons_succ, List.length_cons, List.length_nil, isLd, Bool.true_and, Bool.false_and, Bool.and_true, Bool.and_false, g0, fa0_0c, fa0_1c]
  simp (maxSteps := 300000) (disch := omega) only [gs, gs2, gs3, ↓reduceIte, Nat.reduceEqDiff, Nat.mul_one, Nat.add_zero, Nat.zero_add, Nat.zero_mul, Int.toNat_natCast, Int.reduceToNat, Nat.reduceMul, Nat.reduceAdd, decide_true, decide_false, Bool.not_true, Bool.not_false, true_and, and_true, List.map_cons, List.map_nil, List.nil_append, List.cons_append, List.append_nil, Option.map_some, Option.bind_some, List.getElem?_cons_zero, List.getElem?_cons_succ, Bool.false_eq_true, not_true_eq_false, not_false_eq_true, List.contains_cons, List.contains_nil, Nat.reduceBEq, Bool.true_or, Bool.false_or, Bool.or_true, List.set_cons_zero, List.set_cons_succ, List.length_cons, List.length_nil, isLd, Bool.true_and, Bool.false_and, Bool.and_true, Bool.and_false, g0, fa0_0c, fa0_1c]
  refine laws_toGraph_new (N := x0) (h0.sub s_b) (by omega) fun As0 G2 n_s0 => ?_
  have o_s0 := n_s0.own
  have t_s0 := n_s0.sub
  have s_b := s_b.trans t_s0
  have fa0_0c := rd_sub s_b fa0_0
  have fa0_1c := rd_sub s_b fa0_1
  have s_s0 := Sub.rest G1 G2
  simp (maxSteps := 300000) (disch := omega) only [gs, gs2, gs3, ↓reduceIte, Nat.reduceEqDiff, Nat.mul_one, Nat.add_zero, Nat.zero_add, Nat.zero_mul, Int.toNat_natCast, Int.reduceToNat, Nat.reduceMul, Nat.reduceAdd, decide_true, decide_false, Bool.not_true, Bool.not_false, true_and, and_true, List.map_cons, List.map_nil, List.nil_append, List.cons_append, List.append_nil, Option.map_some, Option.bind_some, List.getElem?_cons_zero, List.getElem?_cons_succ, Bool.false_eq_true, not_true_eq_false, not_false_eq_true, List.contains_cons, List.contains_nil, Nat.reduceBEq, Bool.true_or, Bool.false_or, Bool.or_true, List.set_cons_zero, List.set_cons_succ, List.length_cons, List.length_nil, isLd, Bool.true_and, Bool.false_and, Bool.and_true, Bool.and_false, fa0_0c, fa0_1c]
  refine laws_toInt64S_new (N := x1) (h1.sub s_b) (by omega) fun As1 G3 n_s1 => ?_
  have o_s1 := n_s1.own
  have t_s1 := n_s1.sub
  have s_b := s_b.trans t_s1
  have s_s0 := s_s0.trans t_s1
  have fa0_0c := rd_sub s_b fa0_0
  have fa0_1c := rd_sub s_b fa0_1
  have s_s1 := Sub.rest G2 G3
  simp (maxSteps := 300000) (disch := omega) only [gs, gs2, gs3, ↓reduceIte, Nat.reduceEqDiff, Nat.mul_one, Nat.add_zero, Nat.zero_add, Nat.zero_mul, Int.toNat_natCast, Int.reduceToNat, Nat.reduceMul, Nat.reduceAdd, decide_true, decide_false, Bool.not_true, Bool.not_false, true_and, and_true, List.map_cons, List.map_nil, List.nil_append, List.cons_append, List.append_nil, Option.map_some, Option.bind_some, List.getElem?_cons_zero, List.getElem?_cons_succ, Bool.false_eq_true, not_true_eq_false, not_false_eq_true, List.contains_cons, List.contains_nil, Nat.reduceBEq, Bool.true_or, Bool.false_or, Bool.or_true, List.set_cons_zero, List.set_cons_succ, List.length_cons, List.length_nil, isLd, Bool.true_and, Bool.false_and, Bool.and_true, Bool.and_false, fa0_0c, fa0_1c]
  refine laws_toInt64S_new (N := x3) (h3.sub s_b) (by omega) fun As3 G4 n_s3 => ?_
  have o_s3 := n_s3.own
  have t_s3 := n_s3.sub
  have s_b := s_b.trans t_s3
  have s_s0 := s_s0.trans t_s3
  have s_s1 := s_s1.trans t_s3
  have fa0_0c := rd_sub s_b fa0_0
  have fa0_1c := rd_sub s_b fa0_1
  have s_s3 := Sub.rest G3 G4
  simp (maxSteps := 300000) (disch := omega) only [gs, gs2, gs3, ↓reduceIte, Nat.reduceEqDiff, Nat.mul_one, Nat.add_zero, Nat.zero_add, Nat.zero_mul, Int.toNat_natCast, Int.reduceToNat, Nat.reduceMul, Nat.reduceAdd, decide_true, decide_false, Bool.not_true, Bool.not_false, true_and, and_true, List.map_cons, List.map_nil, List.nil_append, List.cons_append, List.append_nil, Option.map_some, Option.bind_some, List.getElem?_cons_zero, List.getElem?_cons_succ, Bool.false_eq_true, not_true_eq_false, not_false_eq_true, List.contains_cons, List.contains_nil, Nat.reduceBEq, Bool.true_or, Bool.false_or, Bool.or_true, List.set_cons_zero, List.set_cons_succ, List.length_cons, List.length_nil, isLd, Bool.true_and, Bool.false_and, Bool.and_true, Bool.and_false, fa0_0c, fa0_1c]
  have hlen : (restV x0 x1 x2 x3).2.1.length ≤ 2 ^ 20 := rest_len x0 x1 x2 x3 (by omega)
  refine spec_RoundsToRest_ok (o_s0.sub s_s0).t3 (o_s1.sub s_s1).ints (o_s3.sub s_s3).ints (by omega) (by omega) (by omega) fun G5 Aw cw n_w => ?_
  have o_w := n_w.own
  have f_b_w : Off G1 Aw := n_w.off.mono s_b
  have t_w := n_w.sub
  have s_b := s_b.trans t_w
  have fa0_0c := rd_sub s_b fa0_0
  have fa0_1c := rd_sub s_b fa0_1
  have s_w : Sub (rest G4 G5) G5 := Sub.rest _ _
  simp (maxSteps := 300000) (disch := omega) only [gs, gs2, gs3, ↓reduceIte, Nat.reduceEqDiff, Nat.mul_one, Nat.add_zero, Nat.zero_add, Nat.zero_mul, Int.toNat_natCast, Int.reduceToNat, Nat.reduceMul, Nat.reduceAdd, decide_true, decide_false, Bool.not_true, Bool.not_false, true_and, and_true, List.map_cons, List.map_nil, List.nil_append, List.cons_append, List.append_nil, Option.map_some, Option.bind_some, List.getElem?_cons_zero, List.getElem?_cons_succ, Bool.false_eq_true, not_true_eq_false, not_false_eq_true, List.contains_cons, List.contains_nil, Nat.reduceBEq, Bool.true_or, Bool.false_or, Bool.or_true, List.set_cons_zero, List.set_cons_succ, List.length_cons, List.length_nil, isLd, Bool.true_and, Bool.false_and, Bool.and_true, Bool.and_false, fa0_0c, fa0_1c]
  refine laws_toGraph_new (N := x0) (h0.sub s_b) (by omega) fun Ai0 G6 n_i0 => ?_
  have o_i0 := n_i0.own
  have f_b_i0 : Off G1 Ai0 := n_i0.off.mono s_b
  have f_w_i0 : Off (rest G4 G5) Ai0 := n_i0.off.mono s_w
  have f_i0_w : Off (rest G5 G6) Aw := Off.rest (own_ne (o_w.sub s_w))
  have t_i0 := n_i0.sub
  have s_b := s_b.trans t_i0
  have s_w := s_w.trans t_i0
  have fa0_0c := rd_sub s_b fa0_0
  have fa0_1c := rd_sub s_b fa0_1
  have s_i0 : Sub (rest G5 G6) G6 := Sub.rest _ _
  simp (maxSteps := 300000) (disch := omega) only [gs, gs2, gs3, ↓reduceIte, Nat.reduceEqDiff, Nat.mul_one, Nat.add_zero, Nat.zero_add, Nat.zero_mul, Int.toNat_natCast, Int.reduceToNat, Nat.reduceMul, Nat.reduceAdd, decide_true, decide_false, Bool.not_true, Bool.not_false, true_and, and_true, List.map_cons, List.map_nil, List.nil_append, List.cons_append, List.append_nil, Option.map_some, Option.bind_some, List.getElem?_cons_zero, List.getElem?_cons_succ, Bool.false_eq_true, not_true_eq_false, not_false_eq_true, List.contains_cons, List.contains_nil, Nat.reduceBEq, Bool.true_or, Bool.false_or, Bool.or_true, List.set_cons_zero, List.set_cons_succ, List.length_cons, List.length_nil, isLd, Bool.true_and, Bool.false_and, Bool.and_true, Bool.and_false, fa0_0c, fa0_1c]
  intro p4 hp4
  simp (maxSteps := 300000) (disch := omega) only [gs, gs2, gs3, ↓reduceIte, Nat.reduceEqDiff, Nat.mul_one, Nat.add_zero, Nat.zero_add, Nat.zero_mul, Int.toNat_natCast, Int.reduceToNat, Nat.reduceMul, Nat.reduceAdd, decide_true, decide_false, Bool.not_true, Bool.not_false, true_and, and_true, List.map_cons, List.map_nil, List.nil_append, List.cons_append, List.append_nil, Option.map_some, Option.bind_some, List.getElem?_cons_zero, List.getElem?_cons_succ, Bool.false_eq_true, not_true_eq_false, not_false_eq_true, List.contains_cons, List.contains_nil, Nat.reduceBEq, Bool.true_or, Bool.false_or, Bool.or_true, List.set_cons_zero, List.set_cons_succ, List.length_cons, List.length_nil, isLd, Bool.true_and, Bool.false_and, Bool.and_true, Bool.and_false, fa0_0c, fa0_1c]
  refine st_fresh (vs := [.int .i64 x0.n, .slice Ai0 x0.edges.length x0.edges.length]) rfl rfl rfl (by intro v hv; simp only [List.mem_cons, List.not_mem_nil, or_false] at hv; rcases hv with rfl | rfl <;> rfl) ?_
  have b_x0 := box_rest (cs := [.int .i64 x0.n, .slice Ai0 x0.edges.length x0.edges.length]) hp4
  have f_x0_w : Off (rest G6 (put G6 p4 ⟨[.int .i64 x0.n, .slice Ai0 x0.edges.length x0.edges.length], true⟩)) Aw := Off.rest (own_ne (o_w.sub s_w))
  have f_x0_i0 : Off (rest G6 (put G6 p4 ⟨[.int .i64 x0.n, .slice Ai0 x0.edges.length x0.edges.length], true⟩)) Ai0 := Off.rest (own_ne (o_i0.sub s_i0))
  have t_x0 := Sub.put hp4 ⟨[.int .i64 x0.n, .slice Ai0 x0.edges.length x0.edges.length], true⟩
  have s_x0 : Sub (rest G6 (put G6 p4 ⟨[.int .i64 x0.n, .slice Ai0 x0.edges.length x0.edges.length], true⟩)) _ := Sub.rest _ (put G6 p4 ⟨[.int .i64 x0.n, .slice Ai0 x0.edges.length x0.edges.length], true⟩)
  have fi0_0 := b_x0 0 _ rfl
  have fi0_1 := b_x0 1 _ rfl
  revert b_x0 f_x0_w f_x0_i0 t_x0 s_x0 fi0_0 fi0_1
  generalize rest G6 (put G6 p4 ⟨[.int .i64 x0.n, .slice Ai0 x0.edges.length x0.edges.length], true⟩) = Hx0
  generalize put G6 p4 ⟨[.int .i64 x0.n, .slice Ai0 x0.edges.length x0.edges.length], true⟩ = G7
  intro b_x0 f_x0_w f_x0_i0 t_x0 s_x0 fi0_0 fi0_1
  have s_b := s_b.trans t_x0
  have s_w := s_w.trans t_x0
  have s_i0 := s_i0.trans t_x0
  have fa0_0c := rd_sub s_b fa0_0
  have fa0_1c := rd_sub s_b fa0_1
  have fi0_0c := rd_sub s_x0 fi0_0
  have fi0_1c := rd_sub s_x0 fi0_1
  simp (maxSteps := 300000) (disch := omega) only [gs, gs2, gs3, ↓reduceIte, Nat.reduceEqDiff, Nat.mul_one, Nat.add_zero, Nat.zero_add, Nat.zero_mul, Int.toNat_natCast, Int.reduceToNat, Nat.reduceMul, Nat.reduceAdd, decide_true, decide_false, Bool.not_true, Bool.not_false, true_and, and_true, List.map_cons, List.map_nil, List.nil_append, List.cons_append, List.append_nil, Option.map_some, Option.bind_some, List.getElem?_cons_zero, List.getElem?_cons_succ, Bool.false_eq_true, not_true_eq_false, not_false_eq_true, List.contains_cons, List.contains_nil, Nat.reduceBEq, Bool.true_or, Bool.false_or, Bool.or_true, List.set_cons_zero, List.set_cons_succ, List.length_cons, List.length_nil, isLd, Bool.true_and, Bool.false_and, Bool.and_true, Bool.and_false, fa0_0c, fa0_1c, fi0_0c, fi0_1c]
  refine laws_toInt64S_new (N := x1) (h1.sub s_b) (by omega) fun Ai1 G8 n_i1 => ?_
  have o_i1 := n_i1.own
  have f_b_i1 : Off G1 Ai1 := n_i1.off.mono s_b
  have f_w_i1 : Off (rest G4 G5) Ai1 := n_i1.off.mono s_w
  have f_i0_i1 : Off (rest G5 G6) Ai1 := n_i1.off.mono s_i0
  have f_x0_i1 : Off Hx0 Ai1 := n_i1.off.mono s_x0
  have f_i1_w : Off (rest G7 G8) Aw := Off.rest (own_ne (o_w.sub s_w))
  have f_i1_i0 : Off (rest G7 G8) Ai0 := Off.rest (own_ne (o_i0.sub s_i0))
  have t_i1 := n_i1.sub
  have s_b := s_b.trans t_i1
  have s_w := s_w.trans t_i1
  have s_i0 := s_i0.trans t_i1
  have s_x0 := s_x0.trans t_i1
  have fa0_0c := rd_sub s_b fa0_0
  have fa0_1c := rd_sub s_b fa0_1
  have fi0_0c := rd_sub s_x0 fi0_0
  have fi0_1c := rd_sub s_x0 fi0_1
  have s_i1 : Sub (rest G7 G8) G8 := Sub.rest _ _
  simp (maxSteps := 300000) (disch := omega) only [gs, gs2, gs3, ↓reduceIte, Nat.reduceEqDiff, Nat.mul_one, Nat.add_zero, Nat.zero_add, Nat.zero_mul, Int.toNat_natCast, Int.reduceToNat, Nat.reduceMul, Nat.reduceAdd, decide_true, decide_false, Bool.not_true, Bool.not_false, true_and, and_true, List.map_cons, List.map_nil, List.nil_append, List.cons_append, List.append_nil, Option.map_some, Option.bind_some, List.getElem?_cons_zero, List.getElem?_cons_succ, Bool.false_eq_true, not_true_eq_false, not_false_eq_true, List.contains_cons, List.contains_nil, Nat.reduceBEq, Bool.true_or, Bool.false_or, Bool.or_true, List.set_cons_zero, List.set_cons_succ, List.length_cons, List.length_nil, isLd, Bool.true_and, Bool.false_and, Bool.and_true, Bool.and_false, fa0_0c, fa0_1c, fi0_0c, fi0_1c]
  refine laws_toInt64S_new (N := x3) (h3.sub s_b) (by omega) fun Ai3 G9 n_i3 => ?_
  have o_i3 := n_i3.own
  have f_b_i3 : Off G1 Ai3 := n_i3.off.mono s_b
  have f_w_i3 : Off (rest G4 G5) Ai3 := n_i3.off.mono s_w
  have f_i0_i3 : Off (rest G5 G6) Ai3 := n_i3.off.mono s_i0
  have f_x0_i3 : Off Hx0 Ai3 := n_i3.off.mono s_x0
  have f_i1_i3 : Off (rest G7 G8) Ai3 := n_i3.off.mono s_i1
  have f_i3_w : Off (rest G8 G9) Aw := Off.rest (own_ne (o_w.sub s_w))
  have f_i3_i0 : Off (rest G8 G9) Ai0 := Off.rest (own_ne (o_i0.sub s_i0))
  have f_i3_i1 : Off (rest G8 G9) Ai1 := Off.rest (own_ne (o_i1.sub s_i1))
  have t_i3 := n_i3.sub
  have s_b := s_b.trans t_i3
  have s_w := s_w.trans t_i3
  have s_i0 := s_i0.trans t_i3
  have s_x0 := s_x0.trans t_i3
  have s_i1 := s_i1.trans t_i3
  have fa0_0c := rd_sub s_b fa0_0
  have fa0_1c := rd_sub s_b fa0_1
  have fi0_0c := rd_sub s_x0 fi0_0
  have fi0_1c := rd_sub s_x0 fi0_1
  have s_i3 : Sub (rest G8 G9) G9 := Sub.rest _ _
  simp (maxSteps := 300000) (disch := omega) only [gs, gs2, gs3, ↓reduceIte, Nat.reduceEqDiff, Nat.mul_one, Nat.add_zero, Nat.zero_add, Nat.zero_mul, Int.toNat_natCast, Int.reduceToNat, Nat.reduceMul, Nat.reduceAdd, decide_true, decide_false, Bool.not_true, Bool.not_false, true_and, and_true, List.map_cons, List.map_nil, List.nil_append, List.cons_append, List.append_nil, Option.map_some, Option.bind_some, List.getElem?_cons_zero, List.getElem?_cons_succ, Bool.false_eq_true, not_true_eq_false, not_false_eq_true, List.contains_cons, List.contains_nil, Nat.reduceBEq, Bool.true_or, Bool.false_or, Bool.or_true, List.set_cons_zero, List.set_cons_succ, List.length_cons, List.length_nil, isLd, Bool.true_and, Bool.false_and, Bool.and_true, Bool.and_false, fa0_0c, fa0_1c, fi0_0c, fi0_1c]
  refine impl_RoundsToRest_ok (o_i0.sub s_i0).t3 (o_i1.sub s_i1).ints (o_i3.sub s_i3).ints (by omega) (by omega) (by omega) fun G10 Ag cg n_g => ?_
  have o_g := n_g.own
  have f_b_g : Off G1 Ag := n_g.off.mono s_b
  have f_w_g : Off (rest G4 G5) Ag := n_g.off.mono s_w
  have f_i0_g : Off (rest G5 G6) Ag := n_g.off.mono s_i0
  have f_x0_g : Off Hx0 Ag := n_g.off.mono s_x0
  have f_i1_g : Off (rest G7 G8) Ag := n_g.off.mono s_i1
  have f_i3_g : Off (rest G8 G9) Ag := n_g.off.mono s_i3
  have f_g_w : Off (rest G9 G10) Aw := Off.rest (own_ne (o_w.sub s_w))
  have f_g_i0 : Off (rest G9 G10) Ai0 := Off.rest (own_ne (o_i0.sub s_i0))
  have f_g_i1 : Off (rest G9 G10) Ai1 := Off.rest (own_ne (o_i1.sub s_i1))
  have f_g_i3 : Off (rest G9 G10) Ai3 := Off.rest (own_ne (o_i3.sub s_i3))
  have t_g := n_g.sub
  have s_b := s_b.trans t_g
  have s_w := s_w.trans t_g
  have s_i0 := s_i0.trans t_g
  have s_x0 := s_x0.trans t_g
  have s_i1 := s_i1.trans t_g
  have s_i3 := s_i3.trans t_g
  have fa0_0c := rd_sub s_b fa0_0
  have fa0_1c := rd_sub s_b fa0_1
  have fi0_0c := rd_sub s_x0 fi0_0
  have fi0_1c := rd_sub s_x0 fi0_1
  have s_g : Sub (rest G9 G10) G10 := Sub.rest _ _
  simp (maxSteps := 300000) (disch := omega) only [gs, gs2, gs3, ↓reduceIte, Nat.reduceEqDiff, Nat.mul_one, Nat.add_zero, Nat.zero_add, Nat.zero_mul, Int.toNat_natCast, Int.reduceToNat, Nat.reduceMul, Nat.reduceAdd, decide_true, decide_false, Bool.not_true, Bool.not_false, true_and, and_true, List.map_cons, List.map_nil, List.nil_append, List.cons_append, List.append_nil, Option.map_some, Option.bind_some, List.getElem?_cons_zero, List.getElem?_cons_succ, Bool.false_eq_true, not_true_eq_false, not_false_eq_true, List.contains_cons, List.contains_nil, Nat.reduceBEq, Bool.true_or, Bool.false_or, Bool.or_true, List.set_cons_zero, List.set_cons_succ, List.length_cons, List.length_nil, isLd, Bool.true_and, Bool.false_and, Bool.and_true, Bool.and_false, fa0_0c, fa0_1c, fi0_0c, fi0_1c]
  refine laws_eqInt64S_ok (o_g.sub s_g).ints (o_w.sub s_w).ints (by omega) ?_
  simp (maxSteps := 300000) (disch := omega) only [gs, gs2, gs3, ↓reduceIte, Nat.reduceEqDiff, Nat.mul_one, Nat.add_zero, Nat.zero_add, Nat.zero_mul, Int.toNat_natCast, Int.reduceToNat, Nat.reduceMul, Nat.reduceAdd, decide_true, decide_false, Bool.not_true, Bool.not_false, true_and, and_true, List.map_cons, List.map_nil, List.nil_append, List.cons_append, List.append_nil, Option.map_some, Option.bind_some, List.getElem?_cons_zero, List.getElem?_cons_succ, Bool.false_eq_true, not_true_eq_false, not_false_eq_true, List.contains_cons, List.contains_nil, Nat.reduceBEq, Bool.true_or, Bool.false_or, Bool.or_true, List.set_cons_zero, List.set_cons_succ, List.length_cons, List.length_nil, isLd, Bool.true_and, Bool.false_and, Bool.and_true, Bool.and_false, eq_self, fa0_0c, fa0_1c, fi0_0c, fi0_1c]
  refine laws_toGraph_new (N := x0) (h0.sub s_b) (by omega) fun Ae0 G11 n_e0 => ?_
  have o_e0 := n_e0.own
  have t_e0 := n_e0.sub
  have s_b := s_b.trans t_e0
  have s_w := s_w.trans t_e0
  have s_i0 := s_i0.trans t_e0
  have s_x0 := s_x0.trans t_e0
  have s_i1 := s_i1.trans t_e0
  have s_i3 := s_i3.trans t_e0
  have s_g := s_g.trans t_e0
  have fa0_0c := rd_sub s_b fa0_0
  have fa0_1c := rd_sub s_b fa0_1
  have fi0_0c := rd_sub s_x0 fi0_0
  have fi0_1c := rd_sub s_x0 fi0_1
  have s_e0 := Sub.rest G10 G11
  simp (maxSteps := 300000) (disch := omega) only [gs, gs2, gs3, ↓reduceIte, Nat.reduceEqDiff, Nat.mul_one, Nat.add_zero, Nat.zero_add, Nat.zero_mul, Int.toNat_natCast, Int.reduceToNat, Nat.reduceMul, Nat.reduceAdd, decide_true, decide_false, Bool.not_true, Bool.not_false, true_and, and_true, List.map_cons, List.map_nil, List.nil_append, List.cons_append, List.append_nil, Option.map_some, Option.bind_some, List.getElem?_cons_zero, List.getElem?_cons_succ, Bool.false_eq_true, not_true_eq_false, not_false_eq_true, List.contains_cons, List.contains_nil, Nat.reduceBEq, Bool.true_or, Bool.false_or, Bool.or_true, List.set_cons_zero, List.set_cons_succ, List.length_cons, List.length_nil, isLd, Bool.true_and, Bool.false_and, Bool.and_true, Bool.and_false, fa0_0c, fa0_1c, fi0_0c, fi0_1c]
  refine laws_eqGraph_ok (N := x0) (M := x0) (o_i0.sub s_i0).t3 (o_e0.sub s_e0).t3 (by omega) fun b hb => ?_
  obtain rfl : b = true := hb.2 rfl
  simp (maxSteps := 300000) (disch := omega) only [gs, gs2, gs3, ↓reduceIte, Nat.reduceEqDiff, Nat.mul_one, Nat.add_zero, Nat.zero_add, Nat.zero_mul, Int.toNat_natCast, Int.reduceToNat, Nat.reduceMul, Nat.reduceAdd, decide_true, decide_false, Bool.not_true, Bool.not_false, true_and, and_true, List.map_cons, List.map_nil, List.nil_append, List.cons_append, List.append_nil, Option.map_some, Option.bind_some, List.getElem?_cons_zero, List.getElem?_cons_succ, Bool.false_eq_true, not_true_eq_false, not_false_eq_true, List.contains_cons, List.contains_nil, Nat.reduceBEq, Bool.true_or, Bool.false_or, Bool.or_true, List.set_cons_zero, List.set_cons_succ, List.length_cons, List.length_nil, isLd, Bool.true_and, Bool.false_and, Bool.and_true, Bool.and_false, fa0_0c, fa0_1c, fi0_0c, fi0_1c]
  refine laws_toInt64S_new (N := x1) (h1.sub s_b) (by omega) fun Ae1 G12 n_e1 => ?_
  have o_e1 := n_e1.own
  have t_e1 := n_e1.sub
  have s_b := s_b.trans t_e1
  have s_w := s_w.trans t_e1
  have s_i0 := s_i0.trans t_e1
  have s_x0 := s_x0.trans t_e1
  have s_i1 := s_i1.trans t_e1
  have s_i3 := s_i3.trans t_e1
  have s_g := s_g.trans t_e1
  have s_e0 := s_e0.trans t_e1
  have fa0_0c := rd_sub s_b fa0_0
  have fa0_1c := rd_sub s_b fa0_1
  have fi0_0c := rd_sub s_x0 fi0_0
  have fi0_1c := rd_sub s_x0 fi0_1
  have s_e1 := Sub.rest G11 G12
  simp (maxSteps := 300000) (disch := omega) only [gs, gs2, gs3, ↓reduceIte, Nat.reduceEqDiff, Nat.mul_one, Nat.add_zero, Nat.zero_add, Nat.zero_mul, Int.toNat_natCast, Int.reduceToNat, Nat.reduceMul, Nat.reduceAdd, decide_true, decide_false, Bool.not_true, Bool.not_false, true_and, and_true, List.map_cons, List.map_nil, List.nil_append, List.cons_append, List.append_nil, Option.map_some, Option.bind_some, List.getElem?_cons_zero, List.getElem?_cons_succ, Bool.false_eq_true, not_true_eq_false, not_false_eq_true, List.contains_cons, List.contains_nil, Nat.reduceBEq, Bool.true_or, Bool.false_or, Bool.or_true, List.set_cons_zero, List.set_cons_succ, List.length_cons, List.length_nil, isLd, Bool.true_and, Bool.false_and, Bool.and_true, Bool.and_false, fa0_0c, fa0_1c, fi0_0c, fi0_1c]
  refine laws_eqInt64S_ok (o_i1.sub s_i1).ints (o_e1.sub s_e1).ints (by omega) ?_
  simp (maxSteps := 300000) (disch := omega) only [gs, gs2, gs3, ↓reduceIte, Nat.reduceEqDiff, Nat.mul_one, Nat.add_zero, Nat.zero_add, Nat.zero_mul, Int.toNat_natCast, Int.reduceToNat, Nat.reduceMul, Nat.reduceAdd, decide_true, decide_false, Bool.not_true, Bool.not_false, true_and, and_true, List.map_cons, List.map_nil, List.nil_append, List.cons_append, List.append_nil, Option.map_some, Option.bind_some, List.getElem?_cons_zero, List.getElem?_cons_succ, Bool.false_eq_true, not_true_eq_false, not_false_eq_true, List.contains_cons, List.contains_nil, Nat.reduceBEq, Bool.true_or, Bool.false_or, Bool.or_true, List.set_cons_zero, List.set_cons_succ, List.length_cons, List.length_nil, isLd, Bool.true_and, Bool.false_and, Bool.and_true, Bool.and_false, eq_self, fa0_0c, fa0_1c, fi0_0c, fi0_1c]
  refine laws_toInt64S_new (N := x3) (h3.sub s_b) (by omega) fun Ae3 G13 n_e3 => ?_
  have o_e3 := n_e3.own
  have t_e3 := n_e3.sub
  have s_b := s_b.trans t_e3
  have s_w := s_w.trans t_e3
  have s_i0 := s_i0.trans t_e3
  have s_x0 := s_x0.trans t_e3
  have s_i1 := s_i1.trans t_e3
  have s_i3 := s_i3.trans t_e3
  have s_g := s_g.trans t_e3
  have s_e0 := s_e0.trans t_e3
  have s_e1 := s_e1.trans t_e3
  have fa0_0c := rd_sub s_b fa0_0
  have fa0_1c := rd_sub s_b fa0_1
  have fi0_0c := rd_sub s_x0 fi0_0
  have fi0_1c := rd_sub s_x0 fi0_1
  have s_e3 := Sub.rest G12 G13
  simp (maxSteps := 300000) (disch := omega) only [gs, gs2, gs3, ↓reduceIte, Nat.reduceEqDiff, Nat.mul_one, Nat.add_zero, Nat.zero_add, Nat.zero_mul, Int.toNat_natCast, Int.reduceToNat, Nat.reduceMul, Nat.reduceAdd, decide_true, decide_false, Bool.not_true, Bool.not_false, true_and, and_true, List.map_cons, List.map_nil, List.nil_append, List.cons_append, List.append_nil, Option.map_some, Option.bind_some, List.getElem?_cons_zero, List.getElem?_cons_succ, Bool.false_eq_true, not_true_eq_false, not_false_eq_true, List.contains_cons, List.contains_nil, Nat.reduceBEq, Bool.true_or, Bool.false_or, Bool.or_true, List.set_cons_zero, List.set_cons_succ, List.length_cons, List.length_nil, isLd, Bool.true_and, Bool.false_and, Bool.and_true, Bool.and_false, fa0_0c, fa0_1c, fi0_0c, fi0_1c]
  refine laws_eqInt64S_ok (o_i3.sub s_i3).ints (o_e3.sub s_e3).ints (by omega) ?_
  simp (maxSteps := 300000) (disch := omega) only [gs, gs2, gs3, ↓reduceIte, Nat.reduceEqDiff, Nat.mul_one, Nat.add_zero, Nat.zero_add, Nat.zero_mul, Int.toNat_natCast, Int.reduceToNat, Nat.reduceMul, Nat.reduceAdd, decide_true, decide_false, Bool.not_true, Bool.not_false, true_and, and_true, List.map_cons, List.map_nil, List.nil_append, List.cons_append, List.append_nil, Option.map_some, Option.bind_some, List.getElem?_cons_zero, List.getElem?_cons_succ, Bool.false_eq_true, not_true_eq_false, not_false_eq_true, List.contains_cons, List.contains_nil, Nat.reduceBEq, Bool.true_or, Bool.false_or, Bool.or_true, List.set_cons_zero, List.set_cons_succ, List.length_cons, List.length_nil, isLd, Bool.true_and, Bool.false_and, Bool.and_true, Bool.and_false, eq_self, fa0_0c, fa0_1c, fi0_0c, fi0_1c]
  refine laws_markGraph_ok (N := x0) (o_i0.sub s_i0) (by omega) (by omega) fun G14 k0 k0a k0b u0 => ?_
  have s_b := u0.sub s_b f_b_i0
  have s_w := u0.sub s_w f_w_i0
  have s_x0 := u0.sub s_x0 f_x0_i0
  have s_i1 := u0.sub s_i1 f_i1_i0
  have s_i3 := u0.sub s_i3 f_i3_i0
  have s_g := u0.sub s_g f_g_i0
  have fa0_0c := rd_sub s_b fa0_0
  have fa0_1c := rd_sub s_b fa0_1
  have fi0_0c := rd_sub s_x0 fi0_0
  have fi0_1c := rd_sub s_x0 fi0_1
  simp (maxSteps := 300000) (disch := omega) only [gs, gs2, gs3, ↓reduceIte, Nat.reduceEqDiff, Nat.mul_one, Nat.add_zero, Nat.zero_add, Nat.zero_mul, Int.toNat_natCast, Int.reduceToNat, Nat.reduceMul, Nat.reduceAdd, decide_true, decide_false, Bool.not_true, Bool.not_false, true_and, and_true, List.map_cons, List.map_nil, List.nil_append, List.cons_append, List.append_nil, Option.map_some, Option.bind_some, List.getElem?_cons_zero, List.getElem?_cons_succ, Bool.false_eq_true, not_true_eq_false, not_false_eq_true, List.contains_cons, List.contains_nil, Nat.reduceBEq, Bool.true_or, Bool.false_or, Bool.or_true, List.set_cons_zero, List.set_cons_succ, List.length_cons, List.length_nil, isLd, Bool.true_and, Bool.false_and, Bool.and_true, Bool.and_false, fa0_0c, fa0_1c, fi0_0c, fi0_1c]
  refine laws_markInt64S_ok (o_i1.sub s_i1) (by omega) (by omega) fun G15 u1 _ => ?_
  have s_b := u1.sub s_b f_b_i1
  have s_w := u1.sub s_w f_w_i1
  have s_x0 := u1.sub s_x0 f_x0_i1
  have s_i3 := u1.sub s_i3 f_i3_i1
  have s_g := u1.sub s_g f_g_i1
  have fa0_0c := rd_sub s_b fa0_0
  have fa0_1c := rd_sub s_b fa0_1
  have fi0_0c := rd_sub s_x0 fi0_0
  have fi0_1c := rd_sub s_x0 fi0_1
  simp (maxSteps := 300000) (disch := omega) only [gs, gs2, gs3, ↓reduceIte, Nat.reduceEqDiff, Nat.mul_one, Nat.add_zero, Nat.zero_add, Nat.zero_mul, Int.toNat_natCast, Int.reduceToNat, Nat.reduceMul, Nat.reduceAdd, decide_true, decide_false, Bool.not_true, Bool.not_false, true_and, and_true, List.map_cons, List.map_nil, List.nil_append, List.cons_append, List.append_nil, Option.map_some, Option.bind_some, List.getElem?_cons_zero, List.getElem?_cons_succ, Bool.false_eq_true, not_true_eq_false, not_false_eq_true, List.contains_cons, List.contains_nil, Nat.reduceBEq, Bool.true_or, Bool.false_or, Bool.or_true, List.set_cons_zero, List.set_cons_succ, List.length_cons, List.length_nil, isLd, Bool.true_and, Bool.false_and, Bool.and_true, Bool.and_false, fa0_0c, fa0_1c, fi0_0c, fi0_1c]
  refine laws_markInt64S_ok (o_i3.sub s_i3) (by omega) (by omega) fun G16 u3 _ => ?_
  have s_b := u3.sub s_b f_b_i3
  have s_w := u3.sub s_w f_w_i3
  have s_x0 := u3.sub s_x0 f_x0_i3
  have s_g := u3.sub s_g f_g_i3
  have fa0_0c := rd_sub s_b fa0_0
  have fa0_1c := rd_sub s_b fa0_1
  have fi0_0c := rd_sub s_x0 fi0_0
  have fi0_1c := rd_sub s_x0 fi0_1
  simp (maxSteps := 300000) (disch := omega) only [gs, gs2, gs3, ↓reduceIte, Nat.reduceEqDiff, Nat.mul_one, Nat.add_zero, Nat.zero_add, Nat.zero_mul, Int.toNat_natCast, Int.reduceToNat, Nat.reduceMul, Nat.reduceAdd, decide_true, decide_false, Bool.not_true, Bool.not_false, true_and, and_true, List.map_cons, List.map_nil, List.nil_append, List.cons_append, List.append_nil, Option.map_some, Option.bind_some, List.getElem?_cons_zero, List.getElem?_cons_succ, Bool.false_eq_true, not_true_eq_false, not_false_eq_true, List.contains_cons, List.contains_nil, Nat.reduceBEq, Bool.true_or, Bool.false_or, Bool.or_true, List.set_cons_zero, List.set_cons_succ, List.length_cons, List.length_nil, isLd, Bool.true_and, Bool.false_and, Bool.and_true, Bool.and_false, fa0_0c, fa0_1c, fi0_0c, fi0_1c]
  simp (maxSteps := 300000) (disch := omega) only [gs, gs2, gs3, ↓reduceIte, Nat.reduceEqDiff, Nat.mul_one, Nat.add_zero, Nat.zero_add, Nat.zero_mul, Int.toNat_natCast, Int.reduceToNat, Nat.reduceMul, Nat.reduceAdd, decide_true, decide_false, Bool.not_true, Bool.not_false, true_and, and_true, List.map_cons, List.map_nil, List.nil_append, List.cons_append, List.append_nil, Option.map_some, Option.bind_some, List.getElem?_cons_zero, List.getElem?_cons_succ, Bool.false_eq_true, not_true_eq_false, not_false_eq_true, List.contains_cons, List.contains_nil, Nat.reduceBEq, Bool.true_or, Bool.false_or, Bool.or_true, List.set_cons_zero, List.set_cons_succ, List.length_cons, List.length_nil, isLd, Bool.true_and, Bool.false_and, Bool.and_true, Bool.and_false, show ∀ z : Int, 0 ≤ z → (z < 0) = False from fun z hz => eq_false (by omega), fa0_0c, fa0_1c, fi0_0c, fi0_1c]
  refine laws_eqInt64S_ok (o_g.sub s_g).ints (o_w.sub s_w).ints (by omega) ?_
  simp (maxSteps := 300000) (disch := omega) only [gs, gs2, gs3, ↓reduceIte, Nat.reduceEqDiff, Nat.mul_one, Nat.add_zero, Nat.zero_add, Nat.zero_mul, Int.toNat_natCast, Int.reduceToNat, Nat.reduceMul, Nat.reduceAdd, decide_true, decide_false, Bool.not_true, Bool.not_false, true_and, and_true, List.map_cons, List.map_nil, List.nil_append, List.cons_append, List.append_nil, Option.map_some, Option.bind_some, List.getElem?_cons_zero, List.getElem?_cons_succ, Bool.false_eq_true, not_true_eq_false, not_false_eq_true, List.contains_cons, List.contains_nil, Nat.reduceBEq, Bool.true_or, Bool.false_or, Bool.or_true, List.set_cons_zero, List.set_cons_succ, List.length_cons, List.length_nil, isLd, Bool.true_and, Bool.false_and, Bool.and_true, Bool.and_false, eq_self, fa0_0c, fa0_1c, fi0_0c, fi0_1c]
  refine laws_markInt64S_ok (o_g.sub s_g) (by omega) (by omega) fun G17 ug om => ?_
  have s_b := ug.sub s_b f_b_g
  have s_w := ug.sub s_w f_w_g
  have s_x0 := ug.sub s_x0 f_x0_g
  have fa0_0c := rd_sub s_b fa0_0
  have fa0_1c := rd_sub s_b fa0_1
  have fi0_0c := rd_sub s_x0 fi0_0
  have fi0_1c := rd_sub s_x0 fi0_1
  have s_m := Sub.refl G17
  simp (maxSteps := 300000) (disch := omega) only [gs, gs2, gs3, ↓reduceIte, Nat.reduceEqDiff, Nat.mul_one, Nat.add_zero, Nat.zero_add, Nat.zero_mul, Int.toNat_natCast, Int.reduceToNat, Nat.reduceMul, Nat.reduceAdd, decide_true, decide_false, Bool.not_true, Bool.not_false, true_and, and_true, List.map_cons, List.map_nil, List.nil_append, List.cons_append, List.append_nil, Option.map_some, Option.bind_some, List.getElem?_cons_zero, List.getElem?_cons_succ, Bool.false_eq_true, not_true_eq_false, not_false_eq_true, List.contains_cons, List.contains_nil, Nat.reduceBEq, Bool.true_or, Bool.false_or, Bool.or_true, List.set_cons_zero, List.set_cons_succ, List.length_cons, List.length_nil, isLd, Bool.true_and, Bool.false_and, Bool.and_true, Bool.and_false, fa0_0c, fa0_1c, fi0_0c, fi0_1c]
  refine laws_heldInt64S_ok (om.sub s_m).mk (by omega) (by omega) ?_
  simp (maxSteps := 300000) (disch := omega) only [gs, gs2, gs3, ↓reduceIte, Nat.reduceEqDiff, Nat.mul_one, Nat.add_zero, Nat.zero_add, Nat.zero_mul, Int.toNat_natCast, Int.reduceToNat, Nat.reduceMul, Nat.reduceAdd, decide_true, decide_false, Bool.not_true, Bool.not_false, true_and, and_true, List.map_cons, List.map_nil, List.nil_append, List.cons_append, List.append_nil, Option.map_some, Option.bind_some, List.getElem?_cons_zero, List.getElem?_cons_succ, Bool.false_eq_true, not_true_eq_false, not_false_eq_true, List.contains_cons, List.contains_nil, Nat.reduceBEq, Bool.true_or, Bool.false_or, Bool.or_true, List.set_cons_zero, List.set_cons_succ, List.length_cons, List.length_nil, isLd, Bool.true_and, Bool.false_and, Bool.and_true, Bool.and_false, eq_self, show (1 + ((restV x0 x1 x2 x3).2.1.length : Int) < 0) = False from eq_false (by omega), fa0_0c, fa0_1c, fi0_0c, fi0_1c]
  refine laws_toGraph_new (N := x0) (h0.sub s_b) (by omega) fun Ah0 G18 n_h0 => ?_
  have o_h0 := n_h0.own
  have t_h0 := n_h0.sub
  have s_b := s_b.trans t_h0
  have s_w := s_w.trans t_h0
  have s_x0 := s_x0.trans t_h0
  have s_m := s_m.trans t_h0
  have fa0_0c := rd_sub s_b fa0_0
  have fa0_1c := rd_sub s_b fa0_1
  have fi0_0c := rd_sub s_x0 fi0_0
  have fi0_1c := rd_sub s_x0 fi0_1
  have s_h0 := Sub.rest G17 G18
  simp (maxSteps := 300000) (disch := omega) only [gs, gs2, gs3, ↓reduceIte, Nat.reduceEqDiff, Nat.mul_one, Nat.add_zero, Nat.zero_add, Nat.zero_mul, Int.toNat_natCast, Int.reduceToNat, Nat.reduceMul, Nat.reduceAdd, decide_true, decide_false, Bool.not_true, Bool.not_false, true_and, and_true, List.map_cons, List.map_nil, List.nil_append, List.cons_append, List.append_nil, Option.map_some, Option.bind_some, List.getElem?_cons_zero, List.getElem?_cons_succ, Bool.false_eq_true, not_true_eq_false, not_false_eq_true, List.contains_cons, List.contains_nil, Nat.reduceBEq, Bool.true_or, Bool.false_or, Bool.or_true, List.set_cons_zero, List.set_cons_succ, List.length_cons, List.length_nil, isLd, Bool.true_and, Bool.false_and, Bool.and_true, Bool.and_false, fa0_0c, fa0_1c, fi0_0c, fi0_1c]
  refine laws_toInt64S_new (N := x1) (h1.sub s_b) (by omega) fun Ah1 G19 n_h1 => ?_
  have o_h1 := n_h1.own
  have t_h1 := n_h1.sub
  have s_b := s_b.trans t_h1
  have s_w := s_w.trans t_h1
  have s_x0 := s_x0.trans t_h1
  have s_m := s_m.trans t_h1
  have s_h0 := s_h0.trans t_h1
  have fa0_0c := rd_sub s_b fa0_0
  have fa0_1c := rd_sub s_b fa0_1
  have fi0_0c := rd_sub s_x0 fi0_0
  have fi0_1c := rd_sub s_x0 fi0_1
  have s_h1 := Sub.rest G18 G19
  simp (maxSteps := 300000) (disch := omega) only [gs, gs2, gs3, ↓reduceIte, Nat.reduceEqDiff, Nat.mul_one, Nat.add_zero, Nat.zero_add, Nat.zero_mul, Int.toNat_natCast, Int.reduceToNat, Nat.reduceMul, Nat.reduceAdd, decide_true, decide_false, Bool.not_true, Bool.not_false, true_and, and_true, List.map_cons, List.map_nil, List.nil_append, List.cons_append, List.append_nil, Option.map_some, Option.bind_some, List.getElem?_cons_zero, List.getElem?_cons_succ, Bool.false_eq_true, not_true_eq_false, not_false_eq_true, List.contains_cons, List.contains_nil, Nat.reduceBEq, Bool.true_or, Bool.false_or, Bool.or_true, List.set_cons_zero, List.set_cons_succ, List.length_cons, List.length_nil, isLd, Bool.true_and, Bool.false_and, Bool.and_true, Bool.and_false, fa0_0c, fa0_1c, fi0_0c, fi0_1c]
  refine laws_toInt64S_new (N := x3) (h3.sub s_b) (by omega) fun Ah3 G20 n_h3 => ?_
  have o_h3 := n_h3.own
  have t_h3 := n_h3.sub
  have s_b := s_b.trans t_h3
  have s_w := s_w.trans t_h3
  have s_x0 := s_x0.trans t_h3
  have s_m := s_m.trans t_h3
  have s_h0 := s_h0.trans t_h3
  have s_h1 := s_h1.trans t_h3
  have fa0_0c := rd_sub s_b fa0_0
  have fa0_1c := rd_sub s_b fa0_1
  have fi0_0c := rd_sub s_x0 fi0_0
  have fi0_1c := rd_sub s_x0 fi0_1
  have s_h3 := Sub.rest G19 G20
  simp (maxSteps := 300000) (disch := omega) only [gs, gs2, gs3, ↓reduceIte, Nat.reduceEqDiff, Nat.mul_one, Nat.add_zero, Nat.zero_add, Nat.zero_mul, Int.toNat_natCast, Int.reduceToNat, Nat.reduceMul, Nat.reduceAdd, decide_true, decide_false, Bool.not_true, Bool.not_false, true_and, and_true, List.map_cons, List.map_nil, List.nil_append, List.cons_append, List.append_nil, Option.map_some, Option.bind_some, List.getElem?_cons_zero, List.getElem?_cons_succ, Bool.false_eq_true, not_true_eq_false, not_false_eq_true, List.contains_cons, List.contains_nil, Nat.reduceBEq, Bool.true_or, Bool.false_or, Bool.or_true, List.set_cons_zero, List.set_cons_succ, List.length_cons, List.length_nil, isLd, Bool.true_and, Bool.false_and, Bool.and_true, Bool.and_false, fa0_0c, fa0_1c, fi0_0c, fi0_1c]
  refine impl_RoundsToRest_ok (o_h0.sub s_h0).t3 (o_h1.sub s_h1).ints (o_h3.sub s_h3).ints (by omega) (by omega) (by omega) fun G21 Ah ch n_h => ?_
  have o_h := n_h.own
  have t_h := n_h.sub
  have s_b := s_b.trans t_h
  have s_w := s_w.trans t_h
  have s_x0 := s_x0.trans t_h
  have s_m := s_m.trans t_h
  have s_h0 := s_h0.trans t_h
  have s_h1 := s_h1.trans t_h
  have s_h3 := s_h3.trans t_h
  have fa0_0c := rd_sub s_b fa0_0
  have fa0_1c := rd_sub s_b fa0_1
  have fi0_0c := rd_sub s_x0 fi0_0
  have fi0_1c := rd_sub s_x0 fi0_1
  have s_h := Sub.rest G20 G21
  simp (maxSteps := 300000) (disch := omega) only [gs, gs2, gs3, ↓reduceIte, Nat.reduceEqDiff, Nat.mul_one, Nat.add_zero, Nat.zero_add, Nat.zero_mul, Int.toNat_natCast, Int.reduceToNat, Nat.reduceMul, Nat.reduceAdd, decide_true, decide_false, Bool.not_true, Bool.not_false, true_and, and_true, List.map_cons, List.map_nil, List.nil_append, List.cons_append, List.append_nil, Option.map_some, Option.bind_some, List.getElem?_cons_zero, List.getElem?_cons_succ, Bool.false_eq_true, not_true_eq_false, not_false_eq_true, List.contains_cons, List.contains_nil, Nat.reduceBEq, Bool.true_or, Bool.false_or, Bool.or_true, List.set_cons_zero, List.set_cons_succ, List.length_cons, List.length_nil, isLd, Bool.true_and, Bool.false_and, Bool.and_true, Bool.and_false, fa0_0c, fa0_1c, fi0_0c, fi0_1c]
  refine laws_eqInt64S_ok (o_h.sub s_h).ints (o_w.sub s_w).ints (by omega) ?_
  simp (maxSteps := 300000) (disch := omega) only [gs, gs2, gs3, ↓reduceIte, Nat.reduceEqDiff, Nat.mul_one, Nat.add_zero, Nat.zero_add, Nat.zero_mul, Int.toNat_natCast, Int.reduceToNat, Nat.reduceMul, Nat.reduceAdd, decide_true, decide_false, Bool.not_true, Bool.not_false, true_and, and_true, List.map_cons, List.map_nil, List.nil_append, List.cons_append, List.append_nil, Option.map_some, Option.bind_some, List.getElem?_cons_zero, List.getElem?_cons_succ, Bool.false_eq_true, not_true_eq_false, not_false_eq_true, List.contains_cons, List.contains_nil, Nat.reduceBEq, Bool.true_or, Bool.false_or, Bool.or_true, List.set_cons_zero, List.set_cons_succ, List.length_cons, List.length_nil, isLd, Bool.true_and, Bool.false_and, Bool.and_true, Bool.and_false, eq_self, fa0_0c, fa0_1c, fi0_0c, fi0_1c]
  refine laws_heldInt64S_ok (om.sub s_m).mk (by omega) (by omega) ?_
  simp (maxSteps := 300000) (disch := omega) only [gs, gs2, gs3, ↓reduceIte, Nat.reduceEqDiff, Nat.mul_one, Nat.add_zero, Nat.zero_add, Nat.zero_mul, Int.toNat_natCast, Int.reduceToNat, Nat.reduceMul, Nat.reduceAdd, decide_true, decide_false, Bool.not_true, Bool.not_false, true_and, and_true, List.map_cons, List.map_nil, List.nil_append, List.cons_append, List.append_nil, Option.map_some, Option.bind_some, List.getElem?_cons_zero, List.getElem?_cons_succ, Bool.false_eq_true, not_true_eq_false, not_false_eq_true, List.contains_cons, List.contains_nil, Nat.reduceBEq, Bool.true_or, Bool.false_or, Bool.or_true, List.set_cons_zero, List.set_cons_succ, List.length_cons, List.length_nil, isLd, Bool.true_and, Bool.false_and, Bool.and_true, Bool.and_false, eq_self, show (1 + ((restV x0 x1 x2 x3).2.1.length : Int) < 0) = False from eq_false (by omega), fa0_0c, fa0_1c, fi0_0c, fi0_1c]

end Go.Proofs.Ytmlkgpoakkgjbaa.Gh
