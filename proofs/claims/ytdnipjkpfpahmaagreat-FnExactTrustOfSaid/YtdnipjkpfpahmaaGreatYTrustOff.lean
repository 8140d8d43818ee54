/- What the functions that the law TrustOf reaches return, and the law; it stands under no condition. -/
import Derived.Test.YtdnipjkpfpahmaaGreatYTrustOfe
namespace Go.Proofs.YtdnipjkpfpahmaaGreat.Gh
open Go Go.RowKit Go.Proofs
set_option linter.unusedVariables false
set_option linter.unusedSimpArgs false
set_option maxHeartbeats 4000000

theorem laws_szSheaf_ok {G : GH} {m : ShM} {s : Shf} {left : Int} (h : ShG G m s) (hx : ShMx s) (h0 : 0 ≤ left ∧ left ≤ 2 ^ 20) {K : Value → GH → Prop}
    (hk : ∀ l : Int, -1 ≤ l → l ≤ 2 ^ 20 → (0 ≤ l → ShSz s) → K (.int .i64 l) G) : GC Tryz.prog 11 [shV m s, .int .i64 left] G K := by
  refine GC_drop (c_laws_szSheaf_i (by simp) ?_)
  unfold shV shC
  simp (maxSteps := 300000) (disch := omega) only [gs, gs2, gs3, gs4, ↓reduceIte, Nat.reduceEqDiff, Int.reduceToNat, Nat.reduceMul, Nat.reduceAdd, Nat.reduceBEq, isLd]
  intro b1 hb1
  have s1 := Sub.put hb1 ⟨shC m s, true⟩
  have hP := ShP.box hb1 h
  unfold shC at s1 hP
  revert s1 hP
  generalize put G b1 ⟨[.slice m.A s.base.length m.c, .int .i64 s.p, .slice m.S s.st.length m.e, .slice m.M s.ms.length m.l], true⟩ = G1
  intro s1 hP
  obtain ⟨f0, f1, f2, f3⟩ := hP.b
  simp (maxSteps := 300000) (disch := omega) only [gs, gs2, gs3, gs4, ↓reduceIte, Nat.reduceEqDiff, Int.reduceToNat, Nat.reduceMul, Nat.reduceAdd, Nat.reduceBEq, isLd, f0, f1, f2, f3]
  refine laws_szComplex_ok hP.g.rows h0 hx.b hx.bi fun l q1 q2 q3 => ?_
  simp (maxSteps := 300000) (disch := omega) only [gs, gs2, gs3, gs4, ↓reduceIte, Nat.reduceEqDiff, Int.reduceToNat, Nat.reduceMul, Nat.reduceAdd, Nat.reduceBEq, isLd, f0, f1, f2, f3]
  by_cases h1 : l < 0
  · simp (maxSteps := 300000) (disch := omega) only [gs, gs2, gs3, gs4, ↓reduceIte, Nat.reduceEqDiff, Int.reduceToNat, Nat.reduceMul, Nat.reduceAdd, Nat.reduceBEq, isLd, h1]; exact ⟨G, s1, hk _ (by omega) (by omega) (by omega)⟩
  simp (maxSteps := 300000) (disch := omega) only [gs, gs2, gs3, gs4, ↓reduceIte, Nat.reduceEqDiff, Int.reduceToNat, Nat.reduceMul, Nat.reduceAdd, Nat.reduceBEq, isLd, h1, f0, f1, f2, f3]
  obtain ⟨q4, q5, q6⟩ := q3 (by omega)
  refine laws_szInt64S_ok ⟨by omega, by omega⟩ hx.st fun l' r1 r2 r3 => ?_
  simp (maxSteps := 300000) (disch := omega) only [gs, gs2, gs3, gs4, ↓reduceIte, Nat.reduceEqDiff, Int.reduceToNat, Nat.reduceMul, Nat.reduceAdd, Nat.reduceBEq, isLd, f0, f1, f2, f3]
  by_cases h2 : l' < 0
  · simp (maxSteps := 300000) (disch := omega) only [gs, gs2, gs3, gs4, ↓reduceIte, Nat.reduceEqDiff, Int.reduceToNat, Nat.reduceMul, Nat.reduceAdd, Nat.reduceBEq, isLd, h2]; exact ⟨G, s1, hk _ (by omega) (by omega) (by omega)⟩
  simp (maxSteps := 300000) (disch := omega) only [gs, gs2, gs3, gs4, ↓reduceIte, Nat.reduceEqDiff, Int.reduceToNat, Nat.reduceMul, Nat.reduceAdd, Nat.reduceBEq, isLd, h2, f0, f1, f2, f3]
  have r4 := r3 (by omega)
  refine laws_szMatrixS_ok hP.g.ms ⟨by omega, by omega⟩ hx.ms hx.mi fun l2 t1 t2 t3 => ?_
  simp (maxSteps := 300000) (disch := omega) only [gs, gs2, gs3, gs4, ↓reduceIte, Nat.reduceEqDiff, Int.reduceToNat, Nat.reduceMul, Nat.reduceAdd, Nat.reduceBEq, isLd, f0, f1, f2, f3]
  by_cases h3 : l2 < 0
  · simp (maxSteps := 300000) (disch := omega) only [gs, gs2, gs3, gs4, ↓reduceIte, Nat.reduceEqDiff, Int.reduceToNat, Nat.reduceMul, Nat.reduceAdd, Nat.reduceBEq, isLd, h3]; exact ⟨G, s1, hk _ (by omega) (by omega) (by omega)⟩
  simp (maxSteps := 300000) (disch := omega) only [gs, gs2, gs3, gs4, ↓reduceIte, Nat.reduceEqDiff, Int.reduceToNat, Nat.reduceMul, Nat.reduceAdd, Nat.reduceBEq, isLd, h3]
  refine ⟨G, s1, hk _ (by omega) (by omega) fun _ => ?_⟩
  obtain ⟨t4, t5, t6⟩ := t3 (by omega)
  exact ⟨⟨q5, by omega, t4, t6⟩, q6, t5⟩
theorem laws_toSheaf_new {G : GH} {m : ShM} {s : Shf} (h : ShG G m s) (hz : ShSz s) {K : Value → GH → Prop}
    (hk : ∀ m' G', NewS G G' m' s → K (shV m' s) G') : GC Tryz.prog 13 [shV m s] G K := by
  refine c_laws_toSheaf_i (by simp) ?_
  unfold shV shC
  simp (maxSteps := 300000) (disch := omega) only [gs, gs2, gs3, gs4, ↓reduceIte, Nat.reduceEqDiff, Int.reduceToNat, Nat.reduceMul, Nat.reduceAdd, Nat.reduceBEq, isLd]
  intro b1 hb1
  simp (maxSteps := 300000) (disch := omega) only [gs, gs2, gs3, gs4, ↓reduceIte, Nat.reduceEqDiff, Int.reduceToNat, Nat.reduceMul, Nat.reduceAdd, Nat.reduceBEq, isLd]
  intro b2 hb2
  simp (maxSteps := 300000) (disch := omega) only [gs, gs2, gs3, gs4, ↓reduceIte, Nat.reduceEqDiff, Int.reduceToNat, Nat.reduceMul, Nat.reduceAdd, Nat.reduceBEq, isLd]
  intro b3 hb3
  simp only [put_none] at hb2 hb3
  obtain ⟨n12, f2⟩ := hb2
  obtain ⟨n23, n13, f3⟩ := hb3
  simp (maxSteps := 300000) (disch := omega) only [gs, gs2, gs3, gs4, ↓reduceIte, Nat.reduceEqDiff, Int.reduceToNat, Nat.reduceMul, Nat.reduceAdd, Nat.reduceBEq, isLd]
  have s3 := ((((Sub.refl G).skip hb1 (e := ⟨[.slice m.A s.base.length m.c, .int .i64 s.p, .slice m.S s.st.length m.e, .slice m.M s.ms.length m.l], true⟩)).skip f2 (e := ⟨[.slice none 0 0, .int .i64 0, .slice none 0 0, .slice none 0 0], true⟩)).skip f3 (e := ⟨[.slice none 0 0, .int .i64 0, .slice none 0 0, .slice none 0 0], true⟩))
  have g1 : put (put (put G b1 ⟨[.slice m.A s.base.length m.c, .int .i64 s.p, .slice m.S s.st.length m.e, .slice m.M s.ms.length m.l], true⟩) b2 ⟨[.slice none 0 0, .int .i64 0, .slice none 0 0, .slice none 0 0], true⟩) b3 ⟨[.slice none 0 0, .int .i64 0, .slice none 0 0, .slice none 0 0], true⟩ b1 = some ⟨[.slice m.A s.base.length m.c, .int .i64 s.p, .slice m.S s.st.length m.e, .slice m.M s.ms.length m.l], true⟩ := by rw [put_ne _ _ (by omega), put_ne _ _ (by omega)]; exact put_same _ _ _
  have g2 : put (put (put G b1 ⟨[.slice m.A s.base.length m.c, .int .i64 s.p, .slice m.S s.st.length m.e, .slice m.M s.ms.length m.l], true⟩) b2 ⟨[.slice none 0 0, .int .i64 0, .slice none 0 0, .slice none 0 0], true⟩) b3 ⟨[.slice none 0 0, .int .i64 0, .slice none 0 0, .slice none 0 0], true⟩ b2 = some ⟨[.slice none 0 0, .int .i64 0, .slice none 0 0, .slice none 0 0], true⟩ := by rw [put_ne _ _ (by omega)]; exact put_same _ _ _
  have g3 : put (put (put G b1 ⟨[.slice m.A s.base.length m.c, .int .i64 s.p, .slice m.S s.st.length m.e, .slice m.M s.ms.length m.l], true⟩) b2 ⟨[.slice none 0 0, .int .i64 0, .slice none 0 0, .slice none 0 0], true⟩) b3 ⟨[.slice none 0 0, .int .i64 0, .slice none 0 0, .slice none 0 0], true⟩ b3 = some ⟨[.slice none 0 0, .int .i64 0, .slice none 0 0, .slice none 0 0], true⟩ := put_same _ _ _
  revert s3 g1 g2 g3
  generalize put (put (put G b1 ⟨[.slice m.A s.base.length m.c, .int .i64 s.p, .slice m.S s.st.length m.e, .slice m.M s.ms.length m.l], true⟩) b2 ⟨[.slice none 0 0, .int .i64 0, .slice none 0 0, .slice none 0 0], true⟩) b3 ⟨[.slice none 0 0, .int .i64 0, .slice none 0 0, .slice none 0 0], true⟩ = G3
  intro s3 g1 g2 g3
  -- what is said of the argument's box, wherever the box stands
  have rf : ∀ {F : GH}, F b1 = G3 b1 → rd F (some ⟨b1, 0, none⟩) = some (.slice m.A s.base.length m.c) ∧ rd F (some ⟨b1, 1, none⟩) = some (.int .i64 s.p) ∧ rd F (some ⟨b1, 2, none⟩) = some (.slice m.S s.st.length m.e) ∧ rd F (some ⟨b1, 3, none⟩) = some (.slice m.M s.ms.length m.l) := fun e => by
    rw [g1] at e
    simp only [rd, e]; exact ⟨rfl, rfl, rfl, rfl⟩
  refine laws_toComplex_new (h.rows.sub s3) hz.sm.b fun A' hs' G4 S4 hR => ?_
  unfold cxV
  simp (maxSteps := 300000) (disch := omega) only [gs, gs2, gs3, gs4, ↓reduceIte, Nat.reduceEqDiff, Int.reduceToNat, Nat.reduceMul, Nat.reduceAdd, Nat.reduceBEq, isLd]
  have g3' := S4 _ _ g3
  refine st_many (vs := [.slice A' s.base.length s.base.length]) rfl g3' rfl (by simp) (by intro v hv; simp at hv; subst hv; rfl) ?_
  have onR := hR.on
  have rn : ∀ {x : Nat} {e : Ent}, G3 x = some e → rest G3 G4 x = none := fun {x e} hx => by
    cases hr : rest G3 G4 x with
    | none => rfl
    | some y => (have := (rest_some.1 hr).1; rw [hx] at this; cases this)
  have SR5 := (Sub.rest G3 G4).skip (rn g3) (e := ⟨over [.slice none 0 0, .int .i64 0, .slice none 0 0, .slice none 0 0] 0 [.slice A' s.base.length s.base.length], true⟩)
  have k1 : put G4 b3 ⟨over [.slice none 0 0, .int .i64 0, .slice none 0 0, .slice none 0 0] 0 [.slice A' s.base.length s.base.length], true⟩ b1 = G3 b1 := by rw [put_ne _ _ (by omega), S4 _ _ g1, g1]
  have k2 : put G4 b3 ⟨over [.slice none 0 0, .int .i64 0, .slice none 0 0, .slice none 0 0] 0 [.slice A' s.base.length s.base.length], true⟩ b2 = G3 b2 := by rw [put_ne _ _ (by omega), S4 _ _ g2, g2]
  have k3 := put_same G4 b3 ⟨over [.slice none 0 0, .int .i64 0, .slice none 0 0, .slice none 0 0] 0 [.slice A' s.base.length s.base.length], true⟩
  have sg5 := (s3.trans S4).skip f3 (e := ⟨over [.slice none 0 0, .int .i64 0, .slice none 0 0, .slice none 0 0] 0 [.slice A' s.base.length s.base.length], true⟩)
  revert SR5 k1 k2 k3 sg5
  generalize put G4 b3 ⟨over [.slice none 0 0, .int .i64 0, .slice none 0 0, .slice none 0 0] 0 [.slice A' s.base.length s.base.length], true⟩ = G5
  intro SR5 k1 k2 k3 sg5
  simp only [over, List.set_cons_zero, List.set_cons_succ] at k3
  obtain ⟨q0, q1, q2, q3⟩ := rf k1
  simp (maxSteps := 300000) (disch := omega) only [gs, gs2, gs3, gs4, ↓reduceIte, Nat.reduceEqDiff, Int.reduceToNat, Nat.reduceMul, Nat.reduceAdd, Nat.reduceBEq, isLd, q0, q1, q2, q3]
  refine st_one k3 (by simp) rfl ?_
  have SR6 := SR5.skip (rn g3) (e := ⟨[.slice A' s.base.length s.base.length, .int .i64 s.p, .slice none 0 0, .slice none 0 0], true⟩)
  have sg6 := sg5.skip f3 (e := ⟨[.slice A' s.base.length s.base.length, .int .i64 s.p, .slice none 0 0, .slice none 0 0], true⟩)
  have l1 : put G5 b3 ⟨[.slice A' s.base.length s.base.length, .int .i64 s.p, .slice none 0 0, .slice none 0 0], true⟩ b1 = G3 b1 := by rw [put_ne _ _ (by omega), k1]
  have l2 : put G5 b3 ⟨[.slice A' s.base.length s.base.length, .int .i64 s.p, .slice none 0 0, .slice none 0 0], true⟩ b2 = G3 b2 := by rw [put_ne _ _ (by omega), k2]
  have l3 := put_same G5 b3 ⟨[.slice A' s.base.length s.base.length, .int .i64 s.p, .slice none 0 0, .slice none 0 0], true⟩
  simp only [List.set_cons_zero, List.set_cons_succ]
  revert SR6 sg6 l1 l2 l3
  generalize put G5 b3 ⟨[.slice A' s.base.length s.base.length, .int .i64 s.p, .slice none 0 0, .slice none 0 0], true⟩ = G6
  intro SR6 sg6 l1 l2 l3
  obtain ⟨q0, q1, q2, q3⟩ := rf l1
  simp (maxSteps := 300000) (disch := omega) only [gs, gs2, gs3, gs4, ↓reduceIte, Nat.reduceEqDiff, Int.reduceToNat, Nat.reduceMul, Nat.reduceAdd, Nat.reduceBEq, isLd, q0, q1, q2, q3]
  refine laws_toInt64S_ok (h.st.sub sg6) hz.sm.st fun b4 hb4 => ?_
  simp (maxSteps := 300000) (disch := omega) only [gs, gs2, gs3, gs4, ↓reduceIte, Nat.reduceEqDiff, Int.reduceToNat, Nat.reduceMul, Nat.reduceAdd, Nat.reduceBEq, isLd]
  have s7 := Sub.put hb4 ⟨s.st.map I64, true⟩
  refine st_one (s7 _ _ l3) (by simp) rfl ?_
  simp only [List.set_cons_zero, List.set_cons_succ]
  have n34 : b3 ≠ b4 := fun e => by rw [e, hb4] at l3; cases l3
  have f4 : G b4 = none := sg6.none hb4
  have n14 : b1 ≠ b4 := fun e => by rw [g1, e, hb4] at l1; cases l1
  have n24 : b2 ≠ b4 := fun e => by rw [g2, e, hb4] at l2; cases l2
  have SR8 := (SR6.trans s7).skip (rn g3) (e := ⟨[.slice A' s.base.length s.base.length, .int .i64 s.p, .slice (some ⟨b4, 0, none⟩) s.st.length s.st.length, .slice none 0 0], true⟩)
  have sg8 := (sg6.trans s7).skip f3 (e := ⟨[.slice A' s.base.length s.base.length, .int .i64 s.p, .slice (some ⟨b4, 0, none⟩) s.st.length s.st.length, .slice none 0 0], true⟩)
  have m1 : put (put G6 b4 ⟨s.st.map I64, true⟩) b3 ⟨[.slice A' s.base.length s.base.length, .int .i64 s.p, .slice (some ⟨b4, 0, none⟩) s.st.length s.st.length, .slice none 0 0], true⟩ b1 = G3 b1 := by rw [put_ne _ _ (by omega), put_ne _ _ n14, l1]
  have m2 : put (put G6 b4 ⟨s.st.map I64, true⟩) b3 ⟨[.slice A' s.base.length s.base.length, .int .i64 s.p, .slice (some ⟨b4, 0, none⟩) s.st.length s.st.length, .slice none 0 0], true⟩ b2 = G3 b2 := by rw [put_ne _ _ (by omega), put_ne _ _ n24, l2]
  have m4 : put (put G6 b4 ⟨s.st.map I64, true⟩) b3 ⟨[.slice A' s.base.length s.base.length, .int .i64 s.p, .slice (some ⟨b4, 0, none⟩) s.st.length s.st.length, .slice none 0 0], true⟩ b4 = some ⟨s.st.map I64, true⟩ := by rw [put_ne _ _ (Ne.symm n34)]; exact put_same _ _ _
  have m3 := put_same (put G6 b4 ⟨s.st.map I64, true⟩) b3 ⟨[.slice A' s.base.length s.base.length, .int .i64 s.p, .slice (some ⟨b4, 0, none⟩) s.st.length s.st.length, .slice none 0 0], true⟩
  revert SR8 sg8 m1 m2 m3 m4
  generalize put (put G6 b4 ⟨s.st.map I64, true⟩) b3 ⟨[.slice A' s.base.length s.base.length, .int .i64 s.p, .slice (some ⟨b4, 0, none⟩) s.st.length s.st.length, .slice none 0 0], true⟩ = G8
  intro SR8 sg8 m1 m2 m4 m3
  obtain ⟨q0, q1, q2, q3⟩ := rf m1
  simp (maxSteps := 300000) (disch := omega) only [gs, gs2, gs3, gs4, ↓reduceIte, Nat.reduceEqDiff, Int.reduceToNat, Nat.reduceMul, Nat.reduceAdd, Nat.reduceBEq, isLd, q0, q1, q2, q3]
  refine laws_toMatrixS_new (h.ms.sub sg8) hz.sm.ms hz.sm.m fun M' H' G9 S9 hM => ?_
  simp (maxSteps := 300000) (disch := omega) only [gs, gs2, gs3, gs4, ↓reduceIte, Nat.reduceEqDiff, Int.reduceToNat, Nat.reduceMul, Nat.reduceAdd, Nat.reduceBEq, isLd]
  refine st_one (S9 _ _ m3) (by simp) rfl ?_
  simp only [List.set_cons_zero, List.set_cons_succ]
  simp (maxSteps := 300000) (disch := omega) only [gs, gs2, gs3, gs4, ↓reduceIte, Nat.reduceEqDiff, Int.reduceToNat, Nat.reduceMul, Nat.reduceAdd, Nat.reduceBEq, isLd]
  have m2' : G9 b2 = some ⟨[.slice none 0 0, .int .i64 0, .slice none 0 0, .slice none 0 0], true⟩ := S9 _ _ (by rw [m2]; exact g2)
  refine st_many (vs := [.slice A' s.base.length s.base.length, .int .i64 s.p, .slice (some ⟨b4, 0, none⟩) s.st.length s.st.length, .slice M' s.ms.length s.ms.length]) rfl (by rw [put_ne _ _ (by omega)]; exact m2') rfl (by simp) (by intro v hv; simp at hv; rcases hv with rfl | rfl | rfl | rfl <;> rfl) ?_
  simp (maxSteps := 300000) (disch := omega) only [gs, gs2, gs3, gs4, ↓reduceIte, Nat.reduceEqDiff, Int.reduceToNat, Nat.reduceMul, Nat.reduceAdd, Nat.reduceBEq, isLd, over]
  have oM : ∀ x, lB M' H' s.ms.length x → G8 x = none := fun x hx => on_rest (hM.on x hx)
  have oR : ∀ x, lB A' hs' s.base.length x → G3 x = none := fun x hx => on_rest (onR x hx)
  have mn : ∀ {x : Nat} {e : Ent}, G8 x = some e → rest G8 G9 x = none := fun {x e} hx => by
    cases hr : rest G8 G9 x with
    | none => rfl
    | some y => (have := (rest_some.1 hr).1; rw [hx] at this; cases this)
  have SMF := ((Sub.rest G8 G9).skip (mn m3) (e := ⟨[.slice A' s.base.length s.base.length, .int .i64 s.p, .slice (some ⟨b4, 0, none⟩) s.st.length s.st.length, .slice M' s.ms.length s.ms.length], true⟩)).skip (mn (by rw [m2]; exact g2)) (e := ⟨[.slice A' s.base.length s.base.length, .int .i64 s.p, .slice (some ⟨b4, 0, none⟩) s.st.length s.st.length, .slice M' s.ms.length s.ms.length], true⟩)
  have SRF := ((SR8.trans S9).skip (rn g3) (e := ⟨[.slice A' s.base.length s.base.length, .int .i64 s.p, .slice (some ⟨b4, 0, none⟩) s.st.length s.st.length, .slice M' s.ms.length s.ms.length], true⟩)).skip (rn g2) (e := ⟨[.slice A' s.base.length s.base.length, .int .i64 s.p, .slice (some ⟨b4, 0, none⟩) s.st.length s.st.length, .slice M' s.ms.length s.ms.length], true⟩)
  have sgF := ((sg8.trans S9).skip f3 (e := ⟨[.slice A' s.base.length s.base.length, .int .i64 s.p, .slice (some ⟨b4, 0, none⟩) s.st.length s.st.length, .slice M' s.ms.length s.ms.length], true⟩)).skip f2 (e := ⟨[.slice A' s.base.length s.base.length, .int .i64 s.p, .slice (some ⟨b4, 0, none⟩) s.st.length s.st.length, .slice M' s.ms.length s.ms.length], true⟩)
  have m4F : put (put G9 b3 ⟨[.slice A' s.base.length s.base.length, .int .i64 s.p, .slice (some ⟨b4, 0, none⟩) s.st.length s.st.length, .slice M' s.ms.length s.ms.length], true⟩) b2 ⟨[.slice A' s.base.length s.base.length, .int .i64 s.p, .slice (some ⟨b4, 0, none⟩) s.st.length s.st.length, .slice M' s.ms.length s.ms.length], true⟩ b4 = some ⟨s.st.map I64, true⟩ := by rw [put_ne _ _ (Ne.symm n24), put_ne _ _ (Ne.symm n34)]; exact S9 _ _ m4
  refine hk ⟨A', s.base.length, hs', some ⟨b4, 0, none⟩, s.st.length, M', s.ms.length, H'⟩ _ ⟨sgF, ⟨?_, ?_, ?_, fun x hx => ?_, fun x hx y => ?_, fun x hx y => ?_⟩⟩
  · exact (hR.sub SRF).rest (fun a ha => s3.none (oR _ (.inl ⟨a, ha, rfl⟩))) fun i hi a ha => s3.none (oR _ (.inr ⟨i, hi, a, ha, rfl⟩))
  · exact .inr ⟨b4, [], rfl, by rw [List.append_nil]; exact rest_some.2 ⟨f4, m4F⟩, by simp, by simp, Nat.le_refl _⟩
  · exact (hM.sub SMF).rest fun x hx => sg8.none (oM x hx)
  · rintro ⟨a, ha, hax⟩
    cases ha
    dsimp only at hax
    subst hax
    cases hr : rest G3 G4 b4 with
    | none => exact onR _ hx hr
    | some e => (have := SR6 _ _ hr; rw [hb4] at this; cases this)
  · cases hr : rest G3 G4 x with
    | none => exact onR _ hx hr
    | some e => (have := SR8 _ _ hr; rw [oM x y] at this; cases this)
  · obtain ⟨a, ha, hax⟩ := hx
    cases ha
    dsimp only at hax
    subst hax
    have := oM _ y
    rw [m4] at this; cases this
theorem laws_eqComplex_ok {G : GH} {A A' : Option Addr} {c c' : Nat} {hs hs' : Nat → Option Addr × Nat} {xss : List (List Int)} (h : RowS G A c hs xss) (h' : RowS G A' c' hs' xss) (hsm : Sm xss) {K : Value → GH → Prop} (hk : K (.bool true) G) : GC Tryz.prog 51 [cxV A xss.length c, cxV A' xss.length c'] G K := by
  refine GC_drop (c_laws_eqComplex_i (by simp) ?_)
  unfold cxV
  simp (maxSteps := 300000) (disch := omega) only [gs, gs2, gs3, gs4, ↓reduceIte, Nat.reduceEqDiff, Int.reduceToNat, Nat.reduceMul, Nat.reduceAdd, Nat.reduceBEq, isLd]
  intro b1 hb1
  simp (maxSteps := 300000) (disch := omega) only [gs, gs2, gs3, gs4, ↓reduceIte, Nat.reduceEqDiff, Int.reduceToNat, Nat.reduceMul, Nat.reduceAdd, Nat.reduceBEq, isLd]
  intro b2 hb2
  simp only [put_none] at hb2
  obtain ⟨n12, f2⟩ := hb2
  have s2 := ((Sub.refl G).skip hb1 (e := ⟨[.slice A xss.length c], true⟩)).skip f2 (e := ⟨[.slice A' xss.length c'], true⟩)
  obtain ⟨z1, z2⟩ := hsm
  simp (maxSteps := 300000) (disch := omega) only [gs, gs2, gs3, gs4, ↓reduceIte, Nat.reduceEqDiff, Int.reduceToNat, Nat.reduceMul, Nat.reduceAdd, Nat.reduceBEq, isLd]
  refine laws_eqInt64SS_ok (h.sub s2) (h'.sub s2) (by omega) (fun i hi => by have := z2 i hi; omega) fun b hb => ?_
  obtain rfl : b = true := hb.2 rfl
  simp (maxSteps := 300000) (disch := omega) only [gs, gs2, gs3, gs4, ↓reduceIte, Nat.reduceEqDiff, Int.reduceToNat, Nat.reduceMul, Nat.reduceAdd, Nat.reduceBEq, isLd]
  exact ⟨G, s2, hk⟩
theorem laws_eqSheaf_ok {G : GH} {m m' : ShM} {s : Shf} (h : ShG G m s) (h' : ShG G m' s) (hz : ShSz s) {K : Value → GH → Prop} (hk : K (.bool true) G) : GC Tryz.prog 17 [shV m s, shV m' s] G K := by
  refine GC_drop (c_laws_eqSheaf_i (by simp) ?_)
  unfold shV shC
  simp (maxSteps := 300000) (disch := omega) only [gs, gs2, gs3, gs4, ↓reduceIte, Nat.reduceEqDiff, Int.reduceToNat, Nat.reduceMul, Nat.reduceAdd, Nat.reduceBEq, isLd]
  intro b1 hb1
  simp (maxSteps := 300000) (disch := omega) only [gs, gs2, gs3, gs4, ↓reduceIte, Nat.reduceEqDiff, Int.reduceToNat, Nat.reduceMul, Nat.reduceAdd, Nat.reduceBEq, isLd]
  intro b2 hb2
  simp only [put_none] at hb2
  obtain ⟨n12, f2⟩ := hb2
  have s2 := ((Sub.refl G).skip hb1 (e := ⟨[.slice m.A s.base.length m.c, .int .i64 s.p, .slice m.S s.st.length m.e, .slice m.M s.ms.length m.l], true⟩)).skip f2 (e := ⟨[.slice m'.A s.base.length m'.c, .int .i64 s.p, .slice m'.S s.st.length m'.e, .slice m'.M s.ms.length m'.l], true⟩)
  have t0 : decide (¬ s.p = s.p) = false := by simp
  have hsm := hz.sm
  have hst := hsm.st
  simp (maxSteps := 300000) (disch := omega) only [gs, gs2, gs3, gs4, ↓reduceIte, Nat.reduceEqDiff, Int.reduceToNat, Nat.reduceMul, Nat.reduceAdd, Nat.reduceBEq, isLd]
  refine laws_eqComplex_ok (h.rows.sub s2) (h'.rows.sub s2) hsm.b ?_
  simp (maxSteps := 300000) (disch := omega) only [gs, gs2, gs3, gs4, ↓reduceIte, Nat.reduceEqDiff, Int.reduceToNat, Nat.reduceMul, Nat.reduceAdd, Nat.reduceBEq, isLd, t0]
  refine laws_eqInt64S_ok (h.st.sub s2) (h'.st.sub s2) (by omega) ?_
  simp (maxSteps := 300000) (disch := omega) only [gs, gs2, gs3, gs4, ↓reduceIte, Nat.reduceEqDiff, Int.reduceToNat, Nat.reduceMul, Nat.reduceAdd, Nat.reduceBEq, isLd, eq_self]
  refine laws_eqMatrixS_ok (h.ms.sub s2) (h'.ms.sub s2) (by have := hsm.ms; omega) hsm.m ?_
  simp (maxSteps := 300000) (disch := omega) only [gs, gs2, gs3, gs4, ↓reduceIte, Nat.reduceEqDiff, Int.reduceToNat, Nat.reduceMul, Nat.reduceAdd, Nat.reduceBEq, isLd]
  exact ⟨G, s2, hk⟩
theorem laws_markSheaf_ok {G : GH} {m : ShM} {s : Shf} {k : Int} (h : OwnS G m s) (hz : ShSz s) (hk0 : 0 ≤ k ∧ k ≤ 2 ^ 20) {K : Value → GH → Prop}
    (hk : ∀ G' l, Oth (shB m s) G G' → 0 ≤ l → l ≤ 2 ^ 30 → K (.int .i64 l) G') : GC Tryz.prog 18 [shV m s, .int .i64 k] G K := by
  refine GC_drop (c_laws_markSheaf_i (by simp) ?_)
  have hon := h.on
  have hsm := hz.sm
  have hst := hsm.st
  unfold shV shC
  simp (maxSteps := 300000) (disch := omega) only [gs, gs2, gs3, gs4, ↓reduceIte, Nat.reduceEqDiff, Int.reduceToNat, Nat.reduceMul, Nat.reduceAdd, Nat.reduceBEq, isLd]
  intro b2 hb2
  have s2 := Sub.put hb2 ⟨[.slice m.A s.base.length m.c, .int .i64 s.p, .slice m.S s.st.length m.e, .slice m.M s.ms.length m.l], true⟩
  have nb : ∀ x, shB m s x → x ≠ b2 := fun x hx e => hon x hx (by rw [e]; exact hb2)
  have g2 := put_same G b2 ⟨[.slice m.A s.base.length m.c, .int .i64 s.p, .slice m.S s.st.length m.e, .slice m.M s.ms.length m.l], true⟩
  have h1 := h.sub s2
  have u1 := Oth.put G b2 ⟨[.slice m.A s.base.length m.c, .int .i64 s.p, .slice m.S s.st.length m.e, .slice m.M s.ms.length m.l], true⟩
  revert s2 g2 h1 u1
  generalize put G b2 ⟨[.slice m.A s.base.length m.c, .int .i64 s.p, .slice m.S s.st.length m.e, .slice m.M s.ms.length m.l], true⟩ = G1
  intro s2 g2 h1 u1
  have rf : ∀ {F : GH}, F b2 = G1 b2 → rd F (some ⟨b2, 0, none⟩) = some (.slice m.A s.base.length m.c) ∧ rd F (some ⟨b2, 2, none⟩) = some (.slice m.S s.st.length m.e) ∧ rd F (some ⟨b2, 3, none⟩) = some (.slice m.M s.ms.length m.l) := fun e => by
    rw [g2] at e
    simp only [rd, e]; exact ⟨rfl, rfl, rfl⟩
  obtain ⟨q0, q2, q3⟩ := rf (F := G1) rfl
  simp (maxSteps := 300000) (disch := omega) only [gs, gs2, gs3, gs4, ↓reduceIte, Nat.reduceEqDiff, Int.reduceToNat, Nat.reduceMul, Nat.reduceAdd, Nat.reduceBEq, isLd, q0, q2, q3]
  refine laws_markComplex_ok h1.rows hsm.b hz.p1 hk0 fun G2 l2 u2 b2a b2b => ?_
  have e2 : G2 b2 = G1 b2 := u2 b2 fun y => nb _ (.inl y) rfl
  have hst2 := h1.st.oth u2 fun a ha y => h.d1 _ y ⟨a, ha, rfl⟩
  have hms2 := h1.ms.oth u2 fun x hx y => h.d2 _ y hx
  obtain ⟨q0, q2, q3⟩ := rf e2
  simp (maxSteps := 300000) (disch := omega) only [gs, gs2, gs3, gs4, ↓reduceIte, Nat.reduceEqDiff, Int.reduceToNat, Nat.reduceMul, Nat.reduceAdd, Nat.reduceBEq, isLd, q0, q2, q3]
  refine laws_markInt64S_ok hst2 (by omega) (by omega) fun G3 uu _ => ?_
  have u3 := uu.oth
  have e3 : G3 b2 = G1 b2 := (u3 b2 fun y => nb _ (.inr (.inl y)) rfl).trans e2
  have hms3 := hms2.oth u3 fun x hx y => h.d3 _ y hx
  obtain ⟨q0, q2, q3⟩ := rf e3
  simp (maxSteps := 300000) (disch := omega) only [gs, gs2, gs3, gs4, ↓reduceIte, Nat.reduceEqDiff, Int.reduceToNat, Nat.reduceMul, Nat.reduceAdd, Nat.reduceBEq, isLd, q0, q2, q3]
  refine laws_markMatrixS_ok hms3 hsm.ms hz.p2 (by omega) fun G4 l4 u4 l4a l4b => ?_
  simp (maxSteps := 300000) (disch := omega) only [gs, gs2, gs3, gs4, ↓reduceIte, Nat.reduceEqDiff, Int.reduceToNat, Nat.reduceMul, Nat.reduceAdd, Nat.reduceBEq, isLd]
  refine ⟨wz G4 (some ⟨b2, 0, none⟩), Sub.wz _ _, hk _ _ (fun x hx => ?_) l4a (by omega)⟩
  by_cases e : x = b2
  · subst e
    rw [hb2]; unfold wz; exact if_pos rfl
  · rw [wz_ne fun a ha y => by cases ha; exact e y.symm, u4 x fun y => hx (.inr (.inr y)), u3 x fun y => hx (.inr (.inl y)), u2 x fun y => hx (.inl y), u1 x e]
/-- a sheaf that came in. -/
def SheafV (G : GH) (v : Value) (s : Shf) : Prop := ∃ m, v = shV m s ∧ ShG G m s ∧ ShMx s
theorem trod_mat {H : Type} {enc : TypeId × Value → H} {P : Program} {W : World} {t s i : TypeId} {fs : Array Field} (ht : P.underlying t = some (.struct fs)) (hs : P.underlying s = some (.slice i)) (hi : P.underlying i = some (.int .i64))
    (hM : fs.toList.map (fun f => (f.offset, f.type)) = [(0, i), (1, i), (2, i), (3, s)]) (hct : P.cellsOf t = 4) (hcs : P.cellsOf s = 1) (hci : P.cellsOf i = 1)
    {fuel : Nat} {cs : List Value} {x : DataW H × List MemPlace} (hf : DataW.trod enc P W 0 (fun _ => true) true fuel t cs = some x) : ∃ (M : Mt) (A : Option Addr) (c : Nat), cs = mtC M A c ∧ IntS (G0 W) A c M.m ∧ M.m.length ≤ 2 ^ 63 - 1 := by
  obtain ⟨a, e0, r0⟩ := trod_fld_i64 ht hM hf 0 rfl hi hci
  obtain ⟨b, e1, r1⟩ := trod_fld_i64 ht hM hf 1 rfl hi hci
  obtain ⟨d, e2, r2⟩ := trod_fld_i64 ht hM hf 2 rfl hi hci
  obtain ⟨A, n, k, m, x1, e3, r3⟩ := trod_fld_sl ht hM hf 3 rfl hs hcs
  obtain ⟨xs, A1, c1, hx, h1, h2, h3⟩ := trod_ints hs hi hci r3
  cases hx
  have hl := trod_clen ht hf
  rw [hct] at hl
  exact ⟨⟨a, b, d, xs⟩, A, k, list_four hl e0 e1 e2 e3, h1, h3⟩
theorem trod_mats {H : Type} {enc : TypeId × Value → H} {P : Program} {W : World} {T t s i : TypeId} {fs : Array Field} (hT : P.underlying T = some (.slice t)) (ht : P.underlying t = some (.struct fs)) (hs : P.underlying s = some (.slice i)) (hi : P.underlying i = some (.int .i64))
    (hM : fs.toList.map (fun f => (f.offset, f.type)) = [(0, i), (1, i), (2, i), (3, s)]) (hct : P.cellsOf t = 4) (hcs : P.cellsOf s = 1) (hci : P.cellsOf i = 1)
    {fuel : Nat} {A : Option Addr} {n c : Nat} {x : DataW H × List MemPlace} (h : DataW.trod enc P W 0 (fun _ => true) true fuel T [.slice A n c] = some x) : ∃ (ms : List Mt) (Hm : Nat → Option Addr × Nat), ms.length = n ∧ MsS (G0 W) A c Hm ms ∧ n ≤ 2 ^ 63 - 1 ∧ ∀ i, i < ms.length → (ms.getD i m0).m.length ≤ 2 ^ 63 - 1 := by
  obtain ⟨hc, hc2, hx⟩ := trod_sl hT h
  rw [hct] at hx
  obtain ⟨xs, hl, hp⟩ := choose_list ((m0, none, 0) : Mt × Option Addr × Nat) (p := fun j y => (∀ k v, (mtC y.1 y.2.1 y.2.2)[k]? = some v → rd (G0 W) (pa A (j * 4 + k)) = some v) ∧ IntS (G0 W) y.2.1 y.2.2 y.1.m ∧ y.1.m.length ≤ 2 ^ 63 - 1) n (fun j hj => by
    obtain ⟨cs, f', x', h1, h2, h3⟩ := hx j hj
    obtain ⟨M, B, b, rfl, q1, q2⟩ := trod_mat ht hs hi hM hct hcs hci h3
    exact ⟨(M, B, b), fun k v hv => h2 k v hv, q1, q2⟩)
  subst hl
  have hg : ∀ j, j < xs.length → (xs.map (·.1)).getD j m0 = (xs.getD j (m0, none, 0)).1 := fun j hj => by simp [List.getD, hj]
  refine ⟨xs.map (·.1), fun j => (xs.getD j (m0, none, 0)).2, by rw [List.length_map], ⟨by rw [List.length_map]; exact hc, fun j hj => ?_, fun j hj => ?_, fun j hj => ?_, fun j hj => ?_, fun j hj => ?_⟩, by omega, fun j hj => ?_⟩
  · rw [List.length_map] at hj; rw [hg j hj]; exact (hp j hj).1 0 _ rfl
  · rw [List.length_map] at hj; rw [hg j hj]; exact (hp j hj).1 1 _ rfl
  · rw [List.length_map] at hj; rw [hg j hj]; exact (hp j hj).1 2 _ rfl
  · rw [List.length_map] at hj; rw [hg j hj]; exact (hp j hj).1 3 _ rfl
  · rw [List.length_map] at hj; rw [hg j hj]; exact (hp j hj).2.1
  · rw [List.length_map] at hj; rw [hg j hj]; exact (hp j hj).2.2
theorem open_Sheaf {H : Type} {enc : TypeId × Value → H} {P : Program} {W : World} {t b u e i T k : TypeId} {fs gs ks : Array Field} (ht : P.underlying t = some (.struct fs)) (hb : P.underlying b = some (.struct gs)) (hu : P.underlying u = some (.slice e)) (he : P.underlying e = some (.slice i)) (hi : P.underlying i = some (.int .i64)) (hT : P.underlying T = some (.slice k)) (hk : P.underlying k = some (.struct ks))
    (hM : fs.toList.map (fun f => (f.offset, f.type)) = [(0, b), (1, i), (2, e), (3, T)]) (hL : gs.toList.map (fun f => (f.offset, f.type)) = [(0, u)]) (hK : ks.toList.map (fun f => (f.offset, f.type)) = [(0, i), (1, i), (2, i), (3, e)])
    (ct : P.cellsOf t = 4) (cb : P.cellsOf b = 1) (cu : P.cellsOf u = 1) (ce : P.cellsOf e = 1) (ci : P.cellsOf i = 1) (cT : P.cellsOf T = 1) (ck : P.cellsOf k = 4)
    {v : Value} {d : DataW H} {ps : List MemPlace} {r : Reach} {base : Nat} (hv : Value.okWide P W r base t v) (h : DataW.Trod enc P W 0 (fun _ => true) true t v d ps) : ∃ s, SheafV (G0 W) v s := by
  obtain ⟨cs, rfl, _⟩ := WideShapes.okWide_struct ht hv
  obtain ⟨fuel, hf⟩ := h
  change DataW.trod enc P W 0 (fun _ => true) true fuel t cs.toList = some (d, ps) at hf
  obtain ⟨m1, x1, hf1⟩ := trod_fld ht hM hf 0 (o := 0) (e := b) rfl
  rw [cb] at hf1
  obtain ⟨A, n, c, m2, x2, e0, r0⟩ := trod_fld_sl hb hL hf1 0 rfl hu cu
  have e0' : cs.toList[0]? = some (.slice A n c) := by simpa using e0
  obtain ⟨p, e1, rp⟩ := trod_fld_i64 ht hM hf 1 rfl hi ci
  obtain ⟨S, ns, es, m3, x3, e2, r2⟩ := trod_fld_sl ht hM hf 2 rfl he ce
  obtain ⟨M, nm, l, m4, x4, e3, r3⟩ := trod_fld_sl ht hM hf 3 rfl hT cT
  obtain ⟨yss, A1, d1, hh, hy, k1, k2, k3⟩ := trod_rows hu he hi ce ci r0
  cases hy
  obtain ⟨xs, A2, c2, hx, h1, h2, h3⟩ := trod_ints he hi ci r2
  cases hx
  obtain ⟨ms, Hm, hnm, q1, q2, q3⟩ := trod_mats hT hk he hi hK ck ce ci r3
  subst hnm
  have hl := trod_clen ht hf
  rw [ct] at hl
  refine ⟨⟨yss, p, xs, ms⟩, ⟨A, c, hh, S, es, M, l, Hm⟩, ?_, ⟨k1, h1, q1⟩, ⟨k3, fun i hi => (k2 i hi).1, h3, q2, q3⟩⟩
  unfold shV shC
  rw [← list_four hl e0' e1 e2 e3]
theorem law_TrustOf {G : GH} {v0 : Value} {v1 : Value} {x0 : Shf} {x1 : List Int} (h0 : SheafV G v0 x0) (h1 : IntsV G v1 x1) : GC Tryz.prog 7 [v0, v1] G fun v _ => v = .bool true := by
  obtain ⟨m0, rfl, h0, n0⟩ := h0
  obtain ⟨A1, c1, rfl, h1, e1, l1⟩ := h1
  refine c_laws_FnExactTrustOf_i (by simp) ?_
  unfold shV shC
  simp (maxSteps := 300000) (disch := omega) only [gs, gs2, gs3, gs4, ↓reduceIte, Nat.reduceEqDiff, Int.reduceToNat, Nat.reduceMul, Nat.reduceAdd, Nat.reduceBEq, isLd]
  have s_b := Sub.refl G
  intro p0 hp0
  generalize hG1 : put G p0 ⟨[.slice m0.A x0.base.length m0.c, .int .i64 x0.p, .slice m0.S x0.st.length m0.e, .slice m0.M x0.ms.length m0.l], true⟩ = G1
  have t1 : Sub G G1 := hG1 ▸ Sub.put hp0 _
  have h0 := h0.sub t1
  have h1 := h1.sub t1
  have fa0_0 : rd G1 (some ⟨p0, 0, none⟩) = some (.slice m0.A x0.base.length m0.c) := by rw [← hG1]; exact rd_box _ _ _ 0 _ rfl
  have fa0_1 : rd G1 (some ⟨p0, 1, none⟩) = some (.int .i64 x0.p) := by rw [← hG1]; exact rd_box _ _ _ 1 _ rfl
  have fa0_2 : rd G1 (some ⟨p0, 2, none⟩) = some (.slice m0.S x0.st.length m0.e) := by rw [← hG1]; exact rd_box _ _ _ 2 _ rfl
  have fa0_3 : rd G1 (some ⟨p0, 3, none⟩) = some (.slice m0.M x0.ms.length m0.l) := by rw [← hG1]; exact rd_box _ _ _ 3 _ rfl
  have s_b := Sub.refl G1
  have fa0_0c := rd_sub s_b fa0_0
  have fa0_1c := rd_sub s_b fa0_1
  have fa0_2c := rd_sub s_b fa0_2
  have fa0_3c := rd_sub s_b fa0_3
  simp (maxSteps := 300000) (disch := omega) only [gs, gs2, gs3, gs4, ↓reduceIte, Nat.reduceEqDiff, Int.reduceToNat, Nat.reduceMul, Nat.reduceAdd, Nat.reduceBEq, isLd, fa0_0c, fa0_1c, fa0_2c, fa0_3c]
  by_cases g1 : (1048576 : Int) < x1.length
  · simp (maxSteps := 300000) (disch := omega) only [gs, gs2, gs3, gs4, ↓reduceIte, Nat.reduceEqDiff, Int.reduceToNat, Nat.reduceMul, Nat.reduceAdd, Nat.reduceBEq, isLd, g1, fa0_0c, fa0_1c, fa0_2c, fa0_3c]
  simp (maxSteps := 300000) (disch := omega) only [gs, gs2, gs3, gs4, ↓reduceIte, Nat.reduceEqDiff, Int.reduceToNat, Nat.reduceMul, Nat.reduceAdd, Nat.reduceBEq, isLd, g1, fa0_0c, fa0_1c, fa0_2c, fa0_3c]
  refine laws_szSheaf_ok (s := x0) (h0.sub s_b) n0 ⟨by omega, by omega⟩ fun q0 q0a q0b q0c => ?_
  simp (maxSteps := 300000) (disch := omega) only [gs, gs2, gs3, gs4, ↓reduceIte, Nat.reduceEqDiff, Int.reduceToNat, Nat.reduceMul, Nat.reduceAdd, Nat.reduceBEq, isLd, fa0_0c, fa0_1c, fa0_2c, fa0_3c]
  by_cases g0 : q0 < 0
  · simp (maxSteps := 300000) (disch := omega) only [gs, gs2, gs3, gs4, ↓reduceIte, Nat.reduceEqDiff, Int.reduceToNat, Nat.reduceMul, Nat.reduceAdd, Nat.reduceBEq, isLd, g0, fa0_0c, fa0_1c, fa0_2c, fa0_3c]
  simp (maxSteps := 300000) (disch := omega) only [gs, gs2, gs3, gs4, ↓reduceIte, Nat.reduceEqDiff, Int.reduceToNat, Nat.reduceMul, Nat.reduceAdd, Nat.reduceBEq, isLd, g0, fa0_0c, fa0_1c, fa0_2c, fa0_3c]
  have z0 := q0c (by omega)
  refine laws_toSheaf_new (s := x0) (h0.sub s_b) z0 fun Ms0 G2 n_s0 => ?_
  unfold shV shC
  have o_s0 := n_s0.own
  have t_s0 := n_s0.sub
  have s_b := s_b.trans t_s0
  have fa0_0c := rd_sub s_b fa0_0
  have fa0_1c := rd_sub s_b fa0_1
  have fa0_2c := rd_sub s_b fa0_2
  have fa0_3c := rd_sub s_b fa0_3
  have s_s0 := Sub.rest G1 G2
  simp (maxSteps := 300000) (disch := omega) only [gs, gs2, gs3, gs4, ↓reduceIte, Nat.reduceEqDiff, Int.reduceToNat, Nat.reduceMul, Nat.reduceAdd, Nat.reduceBEq, isLd, fa0_0c, fa0_1c, fa0_2c, fa0_3c]
  refine laws_toInt64S_new (N := x1) (h1.sub s_b) (by omega) fun As1 G3 n_s1 => ?_
  have o_s1 := n_s1.own
  have t_s1 := n_s1.sub
  have s_b := s_b.trans t_s1
  have s_s0 := s_s0.trans t_s1
  have fa0_0c := rd_sub s_b fa0_0
  have fa0_1c := rd_sub s_b fa0_1
  have fa0_2c := rd_sub s_b fa0_2
  have fa0_3c := rd_sub s_b fa0_3
  have s_s1 := Sub.rest G2 G3
  simp (maxSteps := 300000) (disch := omega) only [gs, gs2, gs3, gs4, ↓reduceIte, Nat.reduceEqDiff, Int.reduceToNat, Nat.reduceMul, Nat.reduceAdd, Nat.reduceBEq, isLd, fa0_0c, fa0_1c, fa0_2c, fa0_3c]
  have hlen : (truV x0 x1).1.length ≤ 2 ^ 20 := tru_len x0 x1
  refine spec_TrustOf_ok (o_s0.sub s_s0).g z0.sm (o_s1.sub s_s1).ints (by omega) fun G4 Aw cw n_w => ?_
  have o_w := n_w.own
  have f_b_w : Off G1 Aw := n_w.off.mono s_b
  have t_w := n_w.sub
  have s_b := s_b.trans t_w
  have fa0_0c := rd_sub s_b fa0_0
  have fa0_1c := rd_sub s_b fa0_1
  have fa0_2c := rd_sub s_b fa0_2
  have fa0_3c := rd_sub s_b fa0_3
  have s_w : Sub (rest G3 G4) G4 := Sub.rest _ _
  simp (maxSteps := 300000) (disch := omega) only [gs, gs2, gs3, gs4, ↓reduceIte, Nat.reduceEqDiff, Int.reduceToNat, Nat.reduceMul, Nat.reduceAdd, Nat.reduceBEq, isLd, fa0_0c, fa0_1c, fa0_2c, fa0_3c]
  refine laws_toSheaf_new (s := x0) (h0.sub s_b) z0 fun Mi0 G5 n_i0 => ?_
  unfold shV shC
  have o_i0 := n_i0.own
  have f_b_i0 : OffS G1 Mi0 x0 := n_i0.offS.mono s_b
  have f_w_i0 : OffS (rest G3 G4) Mi0 x0 := n_i0.offS.mono s_w
  have f_i0_w : Off (rest G4 G5) Aw := Off.rest (own_ne (o_w.sub s_w))
  have t_i0 := n_i0.sub
  have s_b := s_b.trans t_i0
  have s_w := s_w.trans t_i0
  have fa0_0c := rd_sub s_b fa0_0
  have fa0_1c := rd_sub s_b fa0_1
  have fa0_2c := rd_sub s_b fa0_2
  have fa0_3c := rd_sub s_b fa0_3
  have s_i0 : Sub (rest G4 G5) G5 := Sub.rest _ _
  simp (maxSteps := 300000) (disch := omega) only [gs, gs2, gs3, gs4, ↓reduceIte, Nat.reduceEqDiff, Int.reduceToNat, Nat.reduceMul, Nat.reduceAdd, Nat.reduceBEq, isLd, fa0_0c, fa0_1c, fa0_2c, fa0_3c]
  intro p2 hp2
  simp (maxSteps := 300000) (disch := omega) only [gs, gs2, gs3, gs4, ↓reduceIte, Nat.reduceEqDiff, Int.reduceToNat, Nat.reduceMul, Nat.reduceAdd, Nat.reduceBEq, isLd, fa0_0c, fa0_1c, fa0_2c, fa0_3c]
  refine st_fresh (vs := [.slice Mi0.A x0.base.length Mi0.c, .int .i64 x0.p, .slice Mi0.S x0.st.length Mi0.e, .slice Mi0.M x0.ms.length Mi0.l]) rfl rfl rfl (by intro v hv; simp only [List.mem_cons, List.not_mem_nil, or_false] at hv; rcases hv with rfl | rfl | rfl | rfl <;> rfl) ?_
  have b_x0 := box_rest (cs := [.slice Mi0.A x0.base.length Mi0.c, .int .i64 x0.p, .slice Mi0.S x0.st.length Mi0.e, .slice Mi0.M x0.ms.length Mi0.l]) hp2
  have f_x0_w : Off (rest G5 (put G5 p2 ⟨[.slice Mi0.A x0.base.length Mi0.c, .int .i64 x0.p, .slice Mi0.S x0.st.length Mi0.e, .slice Mi0.M x0.ms.length Mi0.l], true⟩)) Aw := Off.rest (own_ne (o_w.sub s_w))
  have f_x0_i0 : OffS (rest G5 (put G5 p2 ⟨[.slice Mi0.A x0.base.length Mi0.c, .int .i64 x0.p, .slice Mi0.S x0.st.length Mi0.e, .slice Mi0.M x0.ms.length Mi0.l], true⟩)) Mi0 x0 := OffS.rest (o_i0.sub s_i0).on
  have t_x0 := Sub.put hp2 ⟨[.slice Mi0.A x0.base.length Mi0.c, .int .i64 x0.p, .slice Mi0.S x0.st.length Mi0.e, .slice Mi0.M x0.ms.length Mi0.l], true⟩
  have s_x0 : Sub (rest G5 (put G5 p2 ⟨[.slice Mi0.A x0.base.length Mi0.c, .int .i64 x0.p, .slice Mi0.S x0.st.length Mi0.e, .slice Mi0.M x0.ms.length Mi0.l], true⟩)) _ := Sub.rest _ (put G5 p2 ⟨[.slice Mi0.A x0.base.length Mi0.c, .int .i64 x0.p, .slice Mi0.S x0.st.length Mi0.e, .slice Mi0.M x0.ms.length Mi0.l], true⟩)
  have fi0_0 := b_x0 0 _ rfl
  have fi0_1 := b_x0 1 _ rfl
  have fi0_2 := b_x0 2 _ rfl
  have fi0_3 := b_x0 3 _ rfl
  revert b_x0 f_x0_w f_x0_i0 t_x0 s_x0 fi0_0 fi0_1 fi0_2 fi0_3
  generalize rest G5 (put G5 p2 ⟨[.slice Mi0.A x0.base.length Mi0.c, .int .i64 x0.p, .slice Mi0.S x0.st.length Mi0.e, .slice Mi0.M x0.ms.length Mi0.l], true⟩) = Hx0
  generalize put G5 p2 ⟨[.slice Mi0.A x0.base.length Mi0.c, .int .i64 x0.p, .slice Mi0.S x0.st.length Mi0.e, .slice Mi0.M x0.ms.length Mi0.l], true⟩ = G6
  intro b_x0 f_x0_w f_x0_i0 t_x0 s_x0 fi0_0 fi0_1 fi0_2 fi0_3
  have s_b := s_b.trans t_x0
  have s_w := s_w.trans t_x0
  have s_i0 := s_i0.trans t_x0
  have fa0_0c := rd_sub s_b fa0_0
  have fa0_1c := rd_sub s_b fa0_1
  have fa0_2c := rd_sub s_b fa0_2
  have fa0_3c := rd_sub s_b fa0_3
  have fi0_0c := rd_sub s_x0 fi0_0
  have fi0_1c := rd_sub s_x0 fi0_1
  have fi0_2c := rd_sub s_x0 fi0_2
  have fi0_3c := rd_sub s_x0 fi0_3
  simp (maxSteps := 300000) (disch := omega) only [gs, gs2, gs3, gs4, ↓reduceIte, Nat.reduceEqDiff, Int.reduceToNat, Nat.reduceMul, Nat.reduceAdd, Nat.reduceBEq, isLd, fa0_0c, fa0_1c, fa0_2c, fa0_3c, fi0_0c, fi0_1c, fi0_2c, fi0_3c]
  refine laws_toInt64S_new (N := x1) (h1.sub s_b) (by omega) fun Ai1 G7 n_i1 => ?_
  have o_i1 := n_i1.own
  have f_b_i1 : Off G1 Ai1 := n_i1.off.mono s_b
  have f_w_i1 : Off (rest G3 G4) Ai1 := n_i1.off.mono s_w
  have f_i0_i1 : Off (rest G4 G5) Ai1 := n_i1.off.mono s_i0
  have f_x0_i1 : Off Hx0 Ai1 := n_i1.off.mono s_x0
  have f_i1_w : Off (rest G6 G7) Aw := Off.rest (own_ne (o_w.sub s_w))
  have f_i1_i0 : OffS (rest G6 G7) Mi0 x0 := OffS.rest (o_i0.sub s_i0).on
  have t_i1 := n_i1.sub
  have s_b := s_b.trans t_i1
  have s_w := s_w.trans t_i1
  have s_i0 := s_i0.trans t_i1
  have s_x0 := s_x0.trans t_i1
  have fa0_0c := rd_sub s_b fa0_0
  have fa0_1c := rd_sub s_b fa0_1
  have fa0_2c := rd_sub s_b fa0_2
  have fa0_3c := rd_sub s_b fa0_3
  have fi0_0c := rd_sub s_x0 fi0_0
  have fi0_1c := rd_sub s_x0 fi0_1
  have fi0_2c := rd_sub s_x0 fi0_2
  have fi0_3c := rd_sub s_x0 fi0_3
  have s_i1 : Sub (rest G6 G7) G7 := Sub.rest _ _
  simp (maxSteps := 300000) (disch := omega) only [gs, gs2, gs3, gs4, ↓reduceIte, Nat.reduceEqDiff, Int.reduceToNat, Nat.reduceMul, Nat.reduceAdd, Nat.reduceBEq, isLd, fa0_0c, fa0_1c, fa0_2c, fa0_3c, fi0_0c, fi0_1c, fi0_2c, fi0_3c]
  refine impl_TrustOf_ok (o_i0.sub s_i0).g z0.sm (o_i1.sub s_i1).ints (by omega) fun G8 Ag cg n_g => ?_
  have o_g := n_g.own
  have f_b_g : Off G1 Ag := n_g.off.mono s_b
  have f_w_g : Off (rest G3 G4) Ag := n_g.off.mono s_w
  have f_i0_g : Off (rest G4 G5) Ag := n_g.off.mono s_i0
  have f_x0_g : Off Hx0 Ag := n_g.off.mono s_x0
  have f_i1_g : Off (rest G6 G7) Ag := n_g.off.mono s_i1
  have f_g_w : Off (rest G7 G8) Aw := Off.rest (own_ne (o_w.sub s_w))
  have f_g_i0 : OffS (rest G7 G8) Mi0 x0 := OffS.rest (o_i0.sub s_i0).on
  have f_g_i1 : Off (rest G7 G8) Ai1 := Off.rest (own_ne (o_i1.sub s_i1))
  have t_g := n_g.sub
  have s_b := s_b.trans t_g
  have s_w := s_w.trans t_g
  have s_i0 := s_i0.trans t_g
  have s_x0 := s_x0.trans t_g
  have s_i1 := s_i1.trans t_g
  have fa0_0c := rd_sub s_b fa0_0
  have fa0_1c := rd_sub s_b fa0_1
  have fa0_2c := rd_sub s_b fa0_2
  have fa0_3c := rd_sub s_b fa0_3
  have fi0_0c := rd_sub s_x0 fi0_0
  have fi0_1c := rd_sub s_x0 fi0_1
  have fi0_2c := rd_sub s_x0 fi0_2
  have fi0_3c := rd_sub s_x0 fi0_3
  have s_g : Sub (rest G7 G8) G8 := Sub.rest _ _
  simp (maxSteps := 300000) (disch := omega) only [gs, gs2, gs3, gs4, ↓reduceIte, Nat.reduceEqDiff, Int.reduceToNat, Nat.reduceMul, Nat.reduceAdd, Nat.reduceBEq, isLd, fa0_0c, fa0_1c, fa0_2c, fa0_3c, fi0_0c, fi0_1c, fi0_2c, fi0_3c]
  refine laws_eqInt64S_ok (o_g.sub s_g).ints (o_w.sub s_w).ints (by omega) ?_
  simp (maxSteps := 300000) (disch := omega) only [gs, gs2, gs3, gs4, ↓reduceIte, Nat.reduceEqDiff, Int.reduceToNat, Nat.reduceMul, Nat.reduceAdd, Nat.reduceBEq, isLd, eq_self, fa0_0c, fa0_1c, fa0_2c, fa0_3c, fi0_0c, fi0_1c, fi0_2c, fi0_3c]
  refine laws_toSheaf_new (s := x0) (h0.sub s_b) z0 fun Me0 G9 n_e0 => ?_
  unfold shV shC
  have o_e0 := n_e0.own
  have t_e0 := n_e0.sub
  have s_b := s_b.trans t_e0
  have s_w := s_w.trans t_e0
  have s_i0 := s_i0.trans t_e0
  have s_x0 := s_x0.trans t_e0
  have s_i1 := s_i1.trans t_e0
  have s_g := s_g.trans t_e0
  have fa0_0c := rd_sub s_b fa0_0
  have fa0_1c := rd_sub s_b fa0_1
  have fa0_2c := rd_sub s_b fa0_2
  have fa0_3c := rd_sub s_b fa0_3
  have fi0_0c := rd_sub s_x0 fi0_0
  have fi0_1c := rd_sub s_x0 fi0_1
  have fi0_2c := rd_sub s_x0 fi0_2
  have fi0_3c := rd_sub s_x0 fi0_3
  have s_e0 := Sub.rest G8 G9
  simp (maxSteps := 300000) (disch := omega) only [gs, gs2, gs3, gs4, ↓reduceIte, Nat.reduceEqDiff, Int.reduceToNat, Nat.reduceMul, Nat.reduceAdd, Nat.reduceBEq, isLd, fa0_0c, fa0_1c, fa0_2c, fa0_3c, fi0_0c, fi0_1c, fi0_2c, fi0_3c]
  refine laws_eqSheaf_ok (s := x0) (o_i0.sub s_i0).g (o_e0.sub s_e0).g z0 ?_
  simp (maxSteps := 300000) (disch := omega) only [gs, gs2, gs3, gs4, ↓reduceIte, Nat.reduceEqDiff, Int.reduceToNat, Nat.reduceMul, Nat.reduceAdd, Nat.reduceBEq, isLd, fa0_0c, fa0_1c, fa0_2c, fa0_3c, fi0_0c, fi0_1c, fi0_2c, fi0_3c]
  refine laws_toInt64S_new (N := x1) (h1.sub s_b) (by omega) fun Ae1 G10 n_e1 => ?_
  have o_e1 := n_e1.own
  have t_e1 := n_e1.sub
  have s_b := s_b.trans t_e1
  have s_w := s_w.trans t_e1
  have s_i0 := s_i0.trans t_e1
  have s_x0 := s_x0.trans t_e1
  have s_i1 := s_i1.trans t_e1
  have s_g := s_g.trans t_e1
  have s_e0 := s_e0.trans t_e1
  have fa0_0c := rd_sub s_b fa0_0
  have fa0_1c := rd_sub s_b fa0_1
  have fa0_2c := rd_sub s_b fa0_2
  have fa0_3c := rd_sub s_b fa0_3
  have fi0_0c := rd_sub s_x0 fi0_0
  have fi0_1c := rd_sub s_x0 fi0_1
  have fi0_2c := rd_sub s_x0 fi0_2
  have fi0_3c := rd_sub s_x0 fi0_3
  have s_e1 := Sub.rest G9 G10
  simp (maxSteps := 300000) (disch := omega) only [gs, gs2, gs3, gs4, ↓reduceIte, Nat.reduceEqDiff, Int.reduceToNat, Nat.reduceMul, Nat.reduceAdd, Nat.reduceBEq, isLd, fa0_0c, fa0_1c, fa0_2c, fa0_3c, fi0_0c, fi0_1c, fi0_2c, fi0_3c]
  refine laws_eqInt64S_ok (o_i1.sub s_i1).ints (o_e1.sub s_e1).ints (by omega) ?_
  simp (maxSteps := 300000) (disch := omega) only [gs, gs2, gs3, gs4, ↓reduceIte, Nat.reduceEqDiff, Int.reduceToNat, Nat.reduceMul, Nat.reduceAdd, Nat.reduceBEq, isLd, eq_self, fa0_0c, fa0_1c, fa0_2c, fa0_3c, fi0_0c, fi0_1c, fi0_2c, fi0_3c]
  refine laws_markSheaf_ok (o_i0.sub s_i0) z0 (by omega) fun G11 k0 u0 k0a k0b => ?_
  have s_b := u0.sub s_b f_b_i0
  have s_w := u0.sub s_w f_w_i0
  have s_x0 := u0.sub s_x0 f_x0_i0
  have s_i1 := u0.sub s_i1 f_i1_i0
  have s_g := u0.sub s_g f_g_i0
  have fa0_0c := rd_sub s_b fa0_0
  have fa0_1c := rd_sub s_b fa0_1
  have fa0_2c := rd_sub s_b fa0_2
  have fa0_3c := rd_sub s_b fa0_3
  have fi0_0c := rd_sub s_x0 fi0_0
  have fi0_1c := rd_sub s_x0 fi0_1
  have fi0_2c := rd_sub s_x0 fi0_2
  have fi0_3c := rd_sub s_x0 fi0_3
  simp (maxSteps := 300000) (disch := omega) only [gs, gs2, gs3, gs4, ↓reduceIte, Nat.reduceEqDiff, Int.reduceToNat, Nat.reduceMul, Nat.reduceAdd, Nat.reduceBEq, isLd, fa0_0c, fa0_1c, fa0_2c, fa0_3c, fi0_0c, fi0_1c, fi0_2c, fi0_3c]
  refine laws_markInt64S_ok (o_i1.sub s_i1) (by omega) (by omega) fun G12 u1 _ => ?_
  have s_b := u1.sub s_b f_b_i1
  have s_w := u1.sub s_w f_w_i1
  have s_x0 := u1.sub s_x0 f_x0_i1
  have s_g := u1.sub s_g f_g_i1
  have fa0_0c := rd_sub s_b fa0_0
  have fa0_1c := rd_sub s_b fa0_1
  have fa0_2c := rd_sub s_b fa0_2
  have fa0_3c := rd_sub s_b fa0_3
  have fi0_0c := rd_sub s_x0 fi0_0
  have fi0_1c := rd_sub s_x0 fi0_1
  have fi0_2c := rd_sub s_x0 fi0_2
  have fi0_3c := rd_sub s_x0 fi0_3
  simp (maxSteps := 300000) (disch := omega) only [gs, gs2, gs3, gs4, ↓reduceIte, Nat.reduceEqDiff, Int.reduceToNat, Nat.reduceMul, Nat.reduceAdd, Nat.reduceBEq, isLd, fa0_0c, fa0_1c, fa0_2c, fa0_3c, fi0_0c, fi0_1c, fi0_2c, fi0_3c]
  simp (maxSteps := 300000) (disch := omega) only [gs, gs2, gs3, gs4, ↓reduceIte, Nat.reduceEqDiff, Int.reduceToNat, Nat.reduceMul, Nat.reduceAdd, Nat.reduceBEq, isLd, show ∀ z : Int, 0 ≤ z → (z < 0) = False from fun z hz => eq_false (by omega), fa0_0c, fa0_1c, fa0_2c, fa0_3c, fi0_0c, fi0_1c, fi0_2c, fi0_3c]
  refine laws_eqInt64S_ok (o_g.sub s_g).ints (o_w.sub s_w).ints (by omega) ?_
  simp (maxSteps := 300000) (disch := omega) only [gs, gs2, gs3, gs4, ↓reduceIte, Nat.reduceEqDiff, Int.reduceToNat, Nat.reduceMul, Nat.reduceAdd, Nat.reduceBEq, isLd, eq_self, fa0_0c, fa0_1c, fa0_2c, fa0_3c, fi0_0c, fi0_1c, fi0_2c, fi0_3c]
  refine laws_markInt64S_ok (o_g.sub s_g) (by omega) (by omega) fun G13 ug om => ?_
  have s_b := ug.sub s_b f_b_g
  have s_w := ug.sub s_w f_w_g
  have s_x0 := ug.sub s_x0 f_x0_g
  have fa0_0c := rd_sub s_b fa0_0
  have fa0_1c := rd_sub s_b fa0_1
  have fa0_2c := rd_sub s_b fa0_2
  have fa0_3c := rd_sub s_b fa0_3
  have fi0_0c := rd_sub s_x0 fi0_0
  have fi0_1c := rd_sub s_x0 fi0_1
  have fi0_2c := rd_sub s_x0 fi0_2
  have fi0_3c := rd_sub s_x0 fi0_3
  have s_m := Sub.refl G13
  simp (maxSteps := 300000) (disch := omega) only [gs, gs2, gs3, gs4, ↓reduceIte, Nat.reduceEqDiff, Int.reduceToNat, Nat.reduceMul, Nat.reduceAdd, Nat.reduceBEq, isLd, fa0_0c, fa0_1c, fa0_2c, fa0_3c, fi0_0c, fi0_1c, fi0_2c, fi0_3c]
  refine laws_heldInt64S_ok (om.sub s_m).mk (by omega) (by omega) ?_
  simp (maxSteps := 300000) (disch := omega) only [gs, gs2, gs3, gs4, ↓reduceIte, Nat.reduceEqDiff, Int.reduceToNat, Nat.reduceMul, Nat.reduceAdd, Nat.reduceBEq, isLd, eq_self, show (1 + ((truV x0 x1).1.length : Int) < 0) = False from eq_false (by omega), fa0_0c, fa0_1c, fa0_2c, fa0_3c, fi0_0c, fi0_1c, fi0_2c, fi0_3c]
  refine laws_toSheaf_new (s := x0) (h0.sub s_b) z0 fun Mh0 G14 n_h0 => ?_
  unfold shV shC
  have o_h0 := n_h0.own
  have t_h0 := n_h0.sub
  have s_b := s_b.trans t_h0
  have s_w := s_w.trans t_h0
  have s_x0 := s_x0.trans t_h0
  have s_m := s_m.trans t_h0
  have fa0_0c := rd_sub s_b fa0_0
  have fa0_1c := rd_sub s_b fa0_1
  have fa0_2c := rd_sub s_b fa0_2
  have fa0_3c := rd_sub s_b fa0_3
  have fi0_0c := rd_sub s_x0 fi0_0
  have fi0_1c := rd_sub s_x0 fi0_1
  have fi0_2c := rd_sub s_x0 fi0_2
  have fi0_3c := rd_sub s_x0 fi0_3
  have s_h0 := Sub.rest G13 G14
  simp (maxSteps := 300000) (disch := omega) only [gs, gs2, gs3, gs4, ↓reduceIte, Nat.reduceEqDiff, Int.reduceToNat, Nat.reduceMul, Nat.reduceAdd, Nat.reduceBEq, isLd, fa0_0c, fa0_1c, fa0_2c, fa0_3c, fi0_0c, fi0_1c, fi0_2c, fi0_3c]
  refine laws_toInt64S_new (N := x1) (h1.sub s_b) (by omega) fun Ah1 G15 n_h1 => ?_
  have o_h1 := n_h1.own
  have t_h1 := n_h1.sub
  have s_b := s_b.trans t_h1
  have s_w := s_w.trans t_h1
  have s_x0 := s_x0.trans t_h1
  have s_m := s_m.trans t_h1
  have s_h0 := s_h0.trans t_h1
  have fa0_0c := rd_sub s_b fa0_0
  have fa0_1c := rd_sub s_b fa0_1
  have fa0_2c := rd_sub s_b fa0_2
  have fa0_3c := rd_sub s_b fa0_3
  have fi0_0c := rd_sub s_x0 fi0_0
  have fi0_1c := rd_sub s_x0 fi0_1
  have fi0_2c := rd_sub s_x0 fi0_2
  have fi0_3c := rd_sub s_x0 fi0_3
  have s_h1 := Sub.rest G14 G15
  simp (maxSteps := 300000) (disch := omega) only [gs, gs2, gs3, gs4, ↓reduceIte, Nat.reduceEqDiff, Int.reduceToNat, Nat.reduceMul, Nat.reduceAdd, Nat.reduceBEq, isLd, fa0_0c, fa0_1c, fa0_2c, fa0_3c, fi0_0c, fi0_1c, fi0_2c, fi0_3c]
  refine impl_TrustOf_ok (o_h0.sub s_h0).g z0.sm (o_h1.sub s_h1).ints (by omega) fun G16 Ah ch n_h => ?_
  have o_h := n_h.own
  have t_h := n_h.sub
  have s_b := s_b.trans t_h
  have s_w := s_w.trans t_h
  have s_x0 := s_x0.trans t_h
  have s_m := s_m.trans t_h
  have s_h0 := s_h0.trans t_h
  have s_h1 := s_h1.trans t_h
  have fa0_0c := rd_sub s_b fa0_0
  have fa0_1c := rd_sub s_b fa0_1
  have fa0_2c := rd_sub s_b fa0_2
  have fa0_3c := rd_sub s_b fa0_3
  have fi0_0c := rd_sub s_x0 fi0_0
  have fi0_1c := rd_sub s_x0 fi0_1
  have fi0_2c := rd_sub s_x0 fi0_2
  have fi0_3c := rd_sub s_x0 fi0_3
  have s_h := Sub.rest G15 G16
  simp (maxSteps := 300000) (disch := omega) only [gs, gs2, gs3, gs4, ↓reduceIte, Nat.reduceEqDiff, Int.reduceToNat, Nat.reduceMul, Nat.reduceAdd, Nat.reduceBEq, isLd, fa0_0c, fa0_1c, fa0_2c, fa0_3c, fi0_0c, fi0_1c, fi0_2c, fi0_3c]
  refine laws_eqInt64S_ok (o_h.sub s_h).ints (o_w.sub s_w).ints (by omega) ?_
  simp (maxSteps := 300000) (disch := omega) only [gs, gs2, gs3, gs4, ↓reduceIte, Nat.reduceEqDiff, Int.reduceToNat, Nat.reduceMul, Nat.reduceAdd, Nat.reduceBEq, isLd, eq_self, fa0_0c, fa0_1c, fa0_2c, fa0_3c, fi0_0c, fi0_1c, fi0_2c, fi0_3c]
  refine laws_heldInt64S_ok (om.sub s_m).mk (by omega) (by omega) ?_
  simp (maxSteps := 300000) (disch := omega) only [gs, gs2, gs3, gs4, ↓reduceIte, Nat.reduceEqDiff, Int.reduceToNat, Nat.reduceMul, Nat.reduceAdd, Nat.reduceBEq, isLd, eq_self, show (1 + ((truV x0 x1).1.length : Int) < 0) = False from eq_false (by omega), fa0_0c, fa0_1c, fa0_2c, fa0_3c, fi0_0c, fi0_1c, fi0_2c, fi0_3c]

end Go.Proofs.YtdnipjkpfpahmaaGreat.Gh
