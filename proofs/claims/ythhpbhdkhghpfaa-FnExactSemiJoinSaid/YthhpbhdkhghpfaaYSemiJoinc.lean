/- What the functions that the law SemiJoin reaches return, and the law; it stands under no condition. -/
import Derived.Test.YthhpbhdkhghpfaaYSemiJoinb
namespace Go.Proofs.Ythhpbhdkhghpfaa.Gh
open Go Go.RowKit Go.Proofs
set_option linter.unusedVariables false
set_option linter.unusedSimpArgs false
set_option maxHeartbeats 4000000

theorem sj_w {G : GH} {N0 N1 : Tab} {A0 B0 A1 B1 : Option Addr} {c0 d0 c1 d1 b2 b3 : Nat} {hs0 hs1 : Nat → Option Addr × Nat} {T : Nat → Value} {K : (Nat → Value) → GH → Prop} (e2 : T 2 = .pointer (some ⟨b2, 0, none⟩)) (e3 : T 3 = .pointer (some ⟨b3, 0, none⟩))
    (f20 : rd G (some ⟨b2, 0, none⟩) = some (.slice A0 N0.cols.length c0)) (f21 : rd G (some ⟨b2, 1, none⟩) = some (.slice B0 N0.rows.length d0)) (f30 : rd G (some ⟨b3, 0, none⟩) = some (.slice A1 N1.cols.length c1)) (f31 : rd G (some ⟨b3, 1, none⟩) = some (.slice B1 N1.rows.length d1))
    (h0 : IntS G A0 c0 N0.cols) (r0 : RowS G B0 d0 hs0 N0.rows) (h1 : IntS G A1 c1 N1.cols) (r1 : RowS G B1 d1 hs1 N1.rows) (l0 : N0.cols.length ≤ 2 ^ 20) (l1 : N1.cols.length ≤ 2 ^ 20) (m0 : Sm N0.rows) (m1 : Sm N1.rows)
    (hK : ∀ T' G' b6 X x Y y hs, BoxT G G' b6 (semiV N0 N1).1 X x Y y hs → (∀ i, i < 6 → T' i = T i) → T' 6 = .pointer (some ⟨b6, 0, none⟩) → T' 7 = .int .i64 (semiV N0 N1).2 → K T' G') : gT Try.prog c_laws_FnExactSemiJoin_8 [] K T G := by
  have one2 : ∀ (X Y : Option Addr) (a b x y : Nat), ∀ v ∈ [Value.slice X a x, Value.slice Y b y], oneB v = true := fun X Y a b x y v hv => by simp at hv; rcases hv with rfl | rfl <;> rfl
  simp (maxSteps := 300000) (disch := omega) only [gs, gs2, gs3, gs4, ↓reduceIte, Nat.reduceEqDiff, Int.reduceToNat, Nat.reduceMul, Nat.reduceAdd, Nat.reduceBEq, isLd, e2, e3, f20, f21, f30, f31]
  refine ⟨?_, ?_⟩
  · skip
    refine laws_toTable_new (h0) (r0) l0 m0 fun Aa Ba ka Ga na => ?_
    have sa := na.sub
    unfold tabV tabC
    simp (maxSteps := 300000) (disch := omega) only [gs, gs2, gs3, gs4, ↓reduceIte, Nat.reduceEqDiff, Int.reduceToNat, Nat.reduceMul, Nat.reduceAdd, Nat.reduceBEq, isLd, rd_sub sa f20, rd_sub sa f21, rd_sub sa f30, rd_sub sa f31]
    refine ⟨?_, ?_⟩
    · skip
      refine laws_toTable_new (h1.sub sa) (r1.sub sa) l1 m1 fun Ab Bb kb Gb nb => ?_
      have sb := sa.trans nb.sub
      unfold tabV tabC
      simp (maxSteps := 300000) (disch := omega) only [gs, gs2, gs3, gs4, ↓reduceIte, Nat.reduceEqDiff, Int.reduceToNat, Nat.reduceMul, Nat.reduceAdd, Nat.reduceBEq, isLd, rd_sub sb f20, rd_sub sb f21, rd_sub sb f30, rd_sub sb f31]
      refine ⟨?_, ?_⟩
      · skip
        refine spec_SemiJoin_ok ((na.i.1).sub nb.sub) ((na.i.2).sub nb.sub) (nb.i.1) (nb.i.2) (by omega) (by omega) m0.sh m1.sh fun G9 X x Y y ks hN => ?_
        have s9 := sb.trans hN.sub
        unfold tabV tabC
        simp (maxSteps := 300000) (disch := omega) only [gs, gs2, gs3, gs4, ↓reduceIte, Nat.reduceEqDiff, Int.reduceToNat, Nat.reduceMul, Nat.reduceAdd, Nat.reduceBEq, isLd, rd_sub s9 f20, rd_sub s9 f21, rd_sub s9 f30, rd_sub s9 f31]
        intro b6 hb6
        have sl := s9.trans (Sub.put hb6 ⟨[Value.slice none 0 0, Value.slice none 0 0], true⟩)
        simp (maxSteps := 300000) (disch := omega) only [gs, gs2, gs3, gs4, ↓reduceIte, Nat.reduceEqDiff, Int.reduceToNat, Nat.reduceMul, Nat.reduceAdd, Nat.reduceBEq, isLd, rd_sub sl f20, rd_sub sl f21, rd_sub sl f30, rd_sub sl f31]
        refine st_fresh (vs := [.slice X (semiV N0 N1).1.cols.length x, .slice Y (semiV N0 N1).1.rows.length y]) rfl rfl rfl (one2 _ _ _ _ _ _) ?_
        simp (maxSteps := 300000) (disch := omega) only [gs, gs2, gs3, gs4, ↓reduceIte, Nat.reduceEqDiff, Int.reduceToNat, Nat.reduceMul, Nat.reduceAdd, Nat.reduceBEq, isLd]
        exact hK _ _ b6 X x Y y ks (BoxT.mk1 hN sb hb6) (fun i hi => by repeat rw [upd_app, if_neg (by omega)]) (by simp (maxSteps := 300000) (disch := omega) only [gs, gs2, gs3, gs4, ↓reduceIte, Nat.reduceEqDiff, Int.reduceToNat, Nat.reduceMul, Nat.reduceAdd, Nat.reduceBEq, isLd]) (by simp (maxSteps := 300000) (disch := omega) only [gs, gs2, gs3, gs4, ↓reduceIte, Nat.reduceEqDiff, Int.reduceToNat, Nat.reduceMul, Nat.reduceAdd, Nat.reduceBEq, isLd])
      · skip
        intro b6 hb6
        have sl := Sub.put hb6 ⟨[Value.slice none 0 0, Value.slice none 0 0], true⟩
        have sll := sb.trans sl
        have q6 := put_same Gb b6 ⟨[Value.slice none 0 0, Value.slice none 0 0], true⟩
        have n6 : G b6 = none := sb.none hb6
        simp (maxSteps := 300000) (disch := omega) only [gs, gs2, gs3, gs4, ↓reduceIte, Nat.reduceEqDiff, Int.reduceToNat, Nat.reduceMul, Nat.reduceAdd, Nat.reduceBEq, isLd, rd_sub sll f20, rd_sub sll f21, rd_sub sll f30, rd_sub sll f31]
        refine spec_SemiJoin_ok (((na.i.1).sub nb.sub).sub sl) (((na.i.2).sub nb.sub).sub sl) ((nb.i.1).sub sl) ((nb.i.2).sub sl) (by omega) (by omega) m0.sh m1.sh fun G9 X x Y y ks hN => ?_
        have s9 := sll.trans hN.sub
        unfold tabV tabC
        simp (maxSteps := 300000) (disch := omega) only [gs, gs2, gs3, gs4, ↓reduceIte, Nat.reduceEqDiff, Int.reduceToNat, Nat.reduceMul, Nat.reduceAdd, Nat.reduceBEq, isLd, rd_sub s9 f20, rd_sub s9 f21, rd_sub s9 f30, rd_sub s9 f31]
        have q7 := q6
        refine st_many (vs := [.slice X (semiV N0 N1).1.cols.length x, .slice Y (semiV N0 N1).1.rows.length y]) rfl (hN.sub _ _ q7) rfl (by simp) (one2 _ _ _ _ _ _) ?_
        simp only [over, List.set_cons_zero, List.set_cons_succ]
        simp (maxSteps := 300000) (disch := omega) only [gs, gs2, gs3, gs4, ↓reduceIte, Nat.reduceEqDiff, Int.reduceToNat, Nat.reduceMul, Nat.reduceAdd, Nat.reduceBEq, isLd]
        exact hK _ _ b6 X x Y y ks (BoxT.mk2 hN sll n6 q7) (fun i hi => by repeat rw [upd_app, if_neg (by omega)]) (by simp (maxSteps := 300000) (disch := omega) only [gs, gs2, gs3, gs4, ↓reduceIte, Nat.reduceEqDiff, Int.reduceToNat, Nat.reduceMul, Nat.reduceAdd, Nat.reduceBEq, isLd]) (by simp (maxSteps := 300000) (disch := omega) only [gs, gs2, gs3, gs4, ↓reduceIte, Nat.reduceEqDiff, Int.reduceToNat, Nat.reduceMul, Nat.reduceAdd, Nat.reduceBEq, isLd])
    · skip
      intro b6 hb6
      have sl := Sub.put hb6 ⟨[Value.slice none 0 0, Value.slice none 0 0], true⟩
      have sll := sa.trans sl
      have q6 := put_same Ga b6 ⟨[Value.slice none 0 0, Value.slice none 0 0], true⟩
      have n6 : G b6 = none := sa.none hb6
      simp (maxSteps := 300000) (disch := omega) only [gs, gs2, gs3, gs4, ↓reduceIte, Nat.reduceEqDiff, Int.reduceToNat, Nat.reduceMul, Nat.reduceAdd, Nat.reduceBEq, isLd, rd_sub sll f20, rd_sub sll f21, rd_sub sll f30, rd_sub sll f31]
      refine laws_toTable_new (h1.sub sll) (r1.sub sll) l1 m1 fun Ab Bb kb Gb nb => ?_
      have sb := sll.trans nb.sub
      unfold tabV tabC
      simp (maxSteps := 300000) (disch := omega) only [gs, gs2, gs3, gs4, ↓reduceIte, Nat.reduceEqDiff, Int.reduceToNat, Nat.reduceMul, Nat.reduceAdd, Nat.reduceBEq, isLd, rd_sub sb f20, rd_sub sb f21, rd_sub sb f30, rd_sub sb f31]
      refine spec_SemiJoin_ok (((na.i.1).sub sl).sub nb.sub) (((na.i.2).sub sl).sub nb.sub) (nb.i.1) (nb.i.2) (by omega) (by omega) m0.sh m1.sh fun G9 X x Y y ks hN => ?_
      have s9 := sb.trans hN.sub
      unfold tabV tabC
      simp (maxSteps := 300000) (disch := omega) only [gs, gs2, gs3, gs4, ↓reduceIte, Nat.reduceEqDiff, Int.reduceToNat, Nat.reduceMul, Nat.reduceAdd, Nat.reduceBEq, isLd, rd_sub s9 f20, rd_sub s9 f21, rd_sub s9 f30, rd_sub s9 f31]
      have q7 := nb.sub _ _ (q6)
      refine st_many (vs := [.slice X (semiV N0 N1).1.cols.length x, .slice Y (semiV N0 N1).1.rows.length y]) rfl (hN.sub _ _ q7) rfl (by simp) (one2 _ _ _ _ _ _) ?_
      simp only [over, List.set_cons_zero, List.set_cons_succ]
      simp (maxSteps := 300000) (disch := omega) only [gs, gs2, gs3, gs4, ↓reduceIte, Nat.reduceEqDiff, Int.reduceToNat, Nat.reduceMul, Nat.reduceAdd, Nat.reduceBEq, isLd]
      exact hK _ _ b6 X x Y y ks (BoxT.mk2 hN sb n6 q7) (fun i hi => by repeat rw [upd_app, if_neg (by omega)]) (by simp (maxSteps := 300000) (disch := omega) only [gs, gs2, gs3, gs4, ↓reduceIte, Nat.reduceEqDiff, Int.reduceToNat, Nat.reduceMul, Nat.reduceAdd, Nat.reduceBEq, isLd]) (by simp (maxSteps := 300000) (disch := omega) only [gs, gs2, gs3, gs4, ↓reduceIte, Nat.reduceEqDiff, Int.reduceToNat, Nat.reduceMul, Nat.reduceAdd, Nat.reduceBEq, isLd])
  · skip
    intro b6 hb6
    have sl := Sub.put hb6 ⟨[Value.slice none 0 0, Value.slice none 0 0], true⟩
    have sll := sl
    have q6 := put_same G b6 ⟨[Value.slice none 0 0, Value.slice none 0 0], true⟩
    have n6 : G b6 = none := hb6
    simp (maxSteps := 300000) (disch := omega) only [gs, gs2, gs3, gs4, ↓reduceIte, Nat.reduceEqDiff, Int.reduceToNat, Nat.reduceMul, Nat.reduceAdd, Nat.reduceBEq, isLd, rd_sub sll f20, rd_sub sll f21, rd_sub sll f30, rd_sub sll f31]
    refine laws_toTable_new (h0.sub sll) (r0.sub sll) l0 m0 fun Aa Ba ka Ga na => ?_
    have sa := sll.trans na.sub
    unfold tabV tabC
    simp (maxSteps := 300000) (disch := omega) only [gs, gs2, gs3, gs4, ↓reduceIte, Nat.reduceEqDiff, Int.reduceToNat, Nat.reduceMul, Nat.reduceAdd, Nat.reduceBEq, isLd, rd_sub sa f20, rd_sub sa f21, rd_sub sa f30, rd_sub sa f31]
    refine laws_toTable_new (h1.sub sa) (r1.sub sa) l1 m1 fun Ab Bb kb Gb nb => ?_
    have sb := sa.trans nb.sub
    unfold tabV tabC
    simp (maxSteps := 300000) (disch := omega) only [gs, gs2, gs3, gs4, ↓reduceIte, Nat.reduceEqDiff, Int.reduceToNat, Nat.reduceMul, Nat.reduceAdd, Nat.reduceBEq, isLd, rd_sub sb f20, rd_sub sb f21, rd_sub sb f30, rd_sub sb f31]
    refine spec_SemiJoin_ok ((na.i.1).sub nb.sub) ((na.i.2).sub nb.sub) (nb.i.1) (nb.i.2) (by omega) (by omega) m0.sh m1.sh fun G9 X x Y y ks hN => ?_
    have s9 := sb.trans hN.sub
    unfold tabV tabC
    simp (maxSteps := 300000) (disch := omega) only [gs, gs2, gs3, gs4, ↓reduceIte, Nat.reduceEqDiff, Int.reduceToNat, Nat.reduceMul, Nat.reduceAdd, Nat.reduceBEq, isLd, rd_sub s9 f20, rd_sub s9 f21, rd_sub s9 f30, rd_sub s9 f31]
    have q7 := nb.sub _ _ (na.sub _ _ (q6))
    refine st_many (vs := [.slice X (semiV N0 N1).1.cols.length x, .slice Y (semiV N0 N1).1.rows.length y]) rfl (hN.sub _ _ q7) rfl (by simp) (one2 _ _ _ _ _ _) ?_
    simp only [over, List.set_cons_zero, List.set_cons_succ]
    simp (maxSteps := 300000) (disch := omega) only [gs, gs2, gs3, gs4, ↓reduceIte, Nat.reduceEqDiff, Int.reduceToNat, Nat.reduceMul, Nat.reduceAdd, Nat.reduceBEq, isLd]
    exact hK _ _ b6 X x Y y ks (BoxT.mk2 hN sb n6 q7) (fun i hi => by repeat rw [upd_app, if_neg (by omega)]) (by simp (maxSteps := 300000) (disch := omega) only [gs, gs2, gs3, gs4, ↓reduceIte, Nat.reduceEqDiff, Int.reduceToNat, Nat.reduceMul, Nat.reduceAdd, Nat.reduceBEq, isLd]) (by simp (maxSteps := 300000) (disch := omega) only [gs, gs2, gs3, gs4, ↓reduceIte, Nat.reduceEqDiff, Int.reduceToNat, Nat.reduceMul, Nat.reduceAdd, Nat.reduceBEq, isLd])
theorem sj_h {G : GH} {N0 N1 : Tab} {A0 B0 A1 B1 : Option Addr} {c0 d0 c1 d1 b2 b3 : Nat} {hs0 hs1 : Nat → Option Addr × Nat} {T : Nat → Value} {K : (Nat → Value) → GH → Prop} (e2 : T 2 = .pointer (some ⟨b2, 0, none⟩)) (e3 : T 3 = .pointer (some ⟨b3, 0, none⟩))
    (f20 : rd G (some ⟨b2, 0, none⟩) = some (.slice A0 N0.cols.length c0)) (f21 : rd G (some ⟨b2, 1, none⟩) = some (.slice B0 N0.rows.length d0)) (f30 : rd G (some ⟨b3, 0, none⟩) = some (.slice A1 N1.cols.length c1)) (f31 : rd G (some ⟨b3, 1, none⟩) = some (.slice B1 N1.rows.length d1))
    (h0 : IntS G A0 c0 N0.cols) (r0 : RowS G B0 d0 hs0 N0.rows) (h1 : IntS G A1 c1 N1.cols) (r1 : RowS G B1 d1 hs1 N1.rows) (l0 : N0.cols.length ≤ 2 ^ 20) (l1 : N1.cols.length ≤ 2 ^ 20) (m0 : Sm N0.rows) (m1 : Sm N1.rows)
    (hK : ∀ T' G' b6 X x Y y hs, BoxT G G' b6 (semiV N0 N1).1 X x Y y hs → (∀ i, i < 15 → T' i = T i) → T' 15 = .pointer (some ⟨b6, 0, none⟩) → T' 16 = .int .i64 (semiV N0 N1).2 → K T' G') : gT Try.prog c_laws_FnExactSemiJoin_31 [] K T G := by
  have one2 : ∀ (X Y : Option Addr) (a b x y : Nat), ∀ v ∈ [Value.slice X a x, Value.slice Y b y], oneB v = true := fun X Y a b x y v hv => by simp at hv; rcases hv with rfl | rfl <;> rfl
  simp (maxSteps := 300000) (disch := omega) only [gs, gs2, gs3, gs4, ↓reduceIte, Nat.reduceEqDiff, Int.reduceToNat, Nat.reduceMul, Nat.reduceAdd, Nat.reduceBEq, isLd, e2, e3, f20, f21, f30, f31]
  refine ⟨?_, ?_⟩
  · skip
    refine laws_toTable_new (h0) (r0) l0 m0 fun Aa Ba ka Ga na => ?_
    have sa := na.sub
    unfold tabV tabC
    simp (maxSteps := 300000) (disch := omega) only [gs, gs2, gs3, gs4, ↓reduceIte, Nat.reduceEqDiff, Int.reduceToNat, Nat.reduceMul, Nat.reduceAdd, Nat.reduceBEq, isLd, rd_sub sa f20, rd_sub sa f21, rd_sub sa f30, rd_sub sa f31]
    refine ⟨?_, ?_⟩
    · skip
      refine laws_toTable_new (h1.sub sa) (r1.sub sa) l1 m1 fun Ab Bb kb Gb nb => ?_
      have sb := sa.trans nb.sub
      unfold tabV tabC
      simp (maxSteps := 300000) (disch := omega) only [gs, gs2, gs3, gs4, ↓reduceIte, Nat.reduceEqDiff, Int.reduceToNat, Nat.reduceMul, Nat.reduceAdd, Nat.reduceBEq, isLd, rd_sub sb f20, rd_sub sb f21, rd_sub sb f30, rd_sub sb f31]
      refine ⟨?_, ?_⟩
      · skip
        refine impl_SemiJoin_ok ((na.i.1).sub nb.sub) ((na.i.2).sub nb.sub) (nb.i.1) (nb.i.2) (by omega) (by omega) m0.sh m1.sh fun G9 X x Y y ks hN => ?_
        have s9 := sb.trans hN.sub
        unfold tabV tabC
        simp (maxSteps := 300000) (disch := omega) only [gs, gs2, gs3, gs4, ↓reduceIte, Nat.reduceEqDiff, Int.reduceToNat, Nat.reduceMul, Nat.reduceAdd, Nat.reduceBEq, isLd, rd_sub s9 f20, rd_sub s9 f21, rd_sub s9 f30, rd_sub s9 f31]
        intro b6 hb6
        have sl := s9.trans (Sub.put hb6 ⟨[Value.slice none 0 0, Value.slice none 0 0], true⟩)
        simp (maxSteps := 300000) (disch := omega) only [gs, gs2, gs3, gs4, ↓reduceIte, Nat.reduceEqDiff, Int.reduceToNat, Nat.reduceMul, Nat.reduceAdd, Nat.reduceBEq, isLd, rd_sub sl f20, rd_sub sl f21, rd_sub sl f30, rd_sub sl f31]
        refine st_fresh (vs := [.slice X (semiV N0 N1).1.cols.length x, .slice Y (semiV N0 N1).1.rows.length y]) rfl rfl rfl (one2 _ _ _ _ _ _) ?_
        simp (maxSteps := 300000) (disch := omega) only [gs, gs2, gs3, gs4, ↓reduceIte, Nat.reduceEqDiff, Int.reduceToNat, Nat.reduceMul, Nat.reduceAdd, Nat.reduceBEq, isLd]
        exact hK _ _ b6 X x Y y ks (BoxT.mk1 hN sb hb6) (fun i hi => by repeat rw [upd_app, if_neg (by omega)]) (by simp (maxSteps := 300000) (disch := omega) only [gs, gs2, gs3, gs4, ↓reduceIte, Nat.reduceEqDiff, Int.reduceToNat, Nat.reduceMul, Nat.reduceAdd, Nat.reduceBEq, isLd]) (by simp (maxSteps := 300000) (disch := omega) only [gs, gs2, gs3, gs4, ↓reduceIte, Nat.reduceEqDiff, Int.reduceToNat, Nat.reduceMul, Nat.reduceAdd, Nat.reduceBEq, isLd])
      · skip
        intro b6 hb6
        have sl := Sub.put hb6 ⟨[Value.slice none 0 0, Value.slice none 0 0], true⟩
        have sll := sb.trans sl
        have q6 := put_same Gb b6 ⟨[Value.slice none 0 0, Value.slice none 0 0], true⟩
        have n6 : G b6 = none := sb.none hb6
        simp (maxSteps := 300000) (disch := omega) only [gs, gs2, gs3, gs4, ↓reduceIte, Nat.reduceEqDiff, Int.reduceToNat, Nat.reduceMul, Nat.reduceAdd, Nat.reduceBEq, isLd, rd_sub sll f20, rd_sub sll f21, rd_sub sll f30, rd_sub sll f31]
        refine impl_SemiJoin_ok (((na.i.1).sub nb.sub).sub sl) (((na.i.2).sub nb.sub).sub sl) ((nb.i.1).sub sl) ((nb.i.2).sub sl) (by omega) (by omega) m0.sh m1.sh fun G9 X x Y y ks hN => ?_
        have s9 := sll.trans hN.sub
        unfold tabV tabC
        simp (maxSteps := 300000) (disch := omega) only [gs, gs2, gs3, gs4, ↓reduceIte, Nat.reduceEqDiff, Int.reduceToNat, Nat.reduceMul, Nat.reduceAdd, Nat.reduceBEq, isLd, rd_sub s9 f20, rd_sub s9 f21, rd_sub s9 f30, rd_sub s9 f31]
        have q7 := q6
        refine st_many (vs := [.slice X (semiV N0 N1).1.cols.length x, .slice Y (semiV N0 N1).1.rows.length y]) rfl (hN.sub _ _ q7) rfl (by simp) (one2 _ _ _ _ _ _) ?_
        simp only [over, List.set_cons_zero, List.set_cons_succ]
        simp (maxSteps := 300000) (disch := omega) only [gs, gs2, gs3, gs4, ↓reduceIte, Nat.reduceEqDiff, Int.reduceToNat, Nat.reduceMul, Nat.reduceAdd, Nat.reduceBEq, isLd]
        exact hK _ _ b6 X x Y y ks (BoxT.mk2 hN sll n6 q7) (fun i hi => by repeat rw [upd_app, if_neg (by omega)]) (by simp (maxSteps := 300000) (disch := omega) only [gs, gs2, gs3, gs4, ↓reduceIte, Nat.reduceEqDiff, Int.reduceToNat, Nat.reduceMul, Nat.reduceAdd, Nat.reduceBEq, isLd]) (by simp (maxSteps := 300000) (disch := omega) only [gs, gs2, gs3, gs4, ↓reduceIte, Nat.reduceEqDiff, Int.reduceToNat, Nat.reduceMul, Nat.reduceAdd, Nat.reduceBEq, isLd])
    · skip
      intro b6 hb6
      have sl := Sub.put hb6 ⟨[Value.slice none 0 0, Value.slice none 0 0], true⟩
      have sll := sa.trans sl
      have q6 := put_same Ga b6 ⟨[Value.slice none 0 0, Value.slice none 0 0], true⟩
      have n6 : G b6 = none := sa.none hb6
      simp (maxSteps := 300000) (disch := omega) only [gs, gs2, gs3, gs4, ↓reduceIte, Nat.reduceEqDiff, Int.reduceToNat, Nat.reduceMul, Nat.reduceAdd, Nat.reduceBEq, isLd, rd_sub sll f20, rd_sub sll f21, rd_sub sll f30, rd_sub sll f31]
      refine laws_toTable_new (h1.sub sll) (r1.sub sll) l1 m1 fun Ab Bb kb Gb nb => ?_
      have sb := sll.trans nb.sub
      unfold tabV tabC
      simp (maxSteps := 300000) (disch := omega) only [gs, gs2, gs3, gs4, ↓reduceIte, Nat.reduceEqDiff, Int.reduceToNat, Nat.reduceMul, Nat.reduceAdd, Nat.reduceBEq, isLd, rd_sub sb f20, rd_sub sb f21, rd_sub sb f30, rd_sub sb f31]
      refine impl_SemiJoin_ok (((na.i.1).sub sl).sub nb.sub) (((na.i.2).sub sl).sub nb.sub) (nb.i.1) (nb.i.2) (by omega) (by omega) m0.sh m1.sh fun G9 X x Y y ks hN => ?_
      have s9 := sb.trans hN.sub
      unfold tabV tabC
      simp (maxSteps := 300000) (disch := omega) only [gs, gs2, gs3, gs4, ↓reduceIte, Nat.reduceEqDiff, Int.reduceToNat, Nat.reduceMul, Nat.reduceAdd, Nat.reduceBEq, isLd, rd_sub s9 f20, rd_sub s9 f21, rd_sub s9 f30, rd_sub s9 f31]
      have q7 := nb.sub _ _ (q6)
      refine st_many (vs := [.slice X (semiV N0 N1).1.cols.length x, .slice Y (semiV N0 N1).1.rows.length y]) rfl (hN.sub _ _ q7) rfl (by simp) (one2 _ _ _ _ _ _) ?_
      simp only [over, List.set_cons_zero, List.set_cons_succ]
      simp (maxSteps := 300000) (disch := omega) only [gs, gs2, gs3, gs4, ↓reduceIte, Nat.reduceEqDiff, Int.reduceToNat, Nat.reduceMul, Nat.reduceAdd, Nat.reduceBEq, isLd]
      exact hK _ _ b6 X x Y y ks (BoxT.mk2 hN sb n6 q7) (fun i hi => by repeat rw [upd_app, if_neg (by omega)]) (by simp (maxSteps := 300000) (disch := omega) only [gs, gs2, gs3, gs4, ↓reduceIte, Nat.reduceEqDiff, Int.reduceToNat, Nat.reduceMul, Nat.reduceAdd, Nat.reduceBEq, isLd]) (by simp (maxSteps := 300000) (disch := omega) only [gs, gs2, gs3, gs4, ↓reduceIte, Nat.reduceEqDiff, Int.reduceToNat, Nat.reduceMul, Nat.reduceAdd, Nat.reduceBEq, isLd])
  · skip
    intro b6 hb6
    have sl := Sub.put hb6 ⟨[Value.slice none 0 0, Value.slice none 0 0], true⟩
    have sll := sl
    have q6 := put_same G b6 ⟨[Value.slice none 0 0, Value.slice none 0 0], true⟩
    have n6 : G b6 = none := hb6
    simp (maxSteps := 300000) (disch := omega) only [gs, gs2, gs3, gs4, ↓reduceIte, Nat.reduceEqDiff, Int.reduceToNat, Nat.reduceMul, Nat.reduceAdd, Nat.reduceBEq, isLd, rd_sub sll f20, rd_sub sll f21, rd_sub sll f30, rd_sub sll f31]
    refine laws_toTable_new (h0.sub sll) (r0.sub sll) l0 m0 fun Aa Ba ka Ga na => ?_
    have sa := sll.trans na.sub
    unfold tabV tabC
    simp (maxSteps := 300000) (disch := omega) only [gs, gs2, gs3, gs4, ↓reduceIte, Nat.reduceEqDiff, Int.reduceToNat, Nat.reduceMul, Nat.reduceAdd, Nat.reduceBEq, isLd, rd_sub sa f20, rd_sub sa f21, rd_sub sa f30, rd_sub sa f31]
    refine laws_toTable_new (h1.sub sa) (r1.sub sa) l1 m1 fun Ab Bb kb Gb nb => ?_
    have sb := sa.trans nb.sub
    unfold tabV tabC
    simp (maxSteps := 300000) (disch := omega) only [gs, gs2, gs3, gs4, ↓reduceIte, Nat.reduceEqDiff, Int.reduceToNat, Nat.reduceMul, Nat.reduceAdd, Nat.reduceBEq, isLd, rd_sub sb f20, rd_sub sb f21, rd_sub sb f30, rd_sub sb f31]
    refine impl_SemiJoin_ok ((na.i.1).sub nb.sub) ((na.i.2).sub nb.sub) (nb.i.1) (nb.i.2) (by omega) (by omega) m0.sh m1.sh fun G9 X x Y y ks hN => ?_
    have s9 := sb.trans hN.sub
    unfold tabV tabC
    simp (maxSteps := 300000) (disch := omega) only [gs, gs2, gs3, gs4, ↓reduceIte, Nat.reduceEqDiff, Int.reduceToNat, Nat.reduceMul, Nat.reduceAdd, Nat.reduceBEq, isLd, rd_sub s9 f20, rd_sub s9 f21, rd_sub s9 f30, rd_sub s9 f31]
    have q7 := nb.sub _ _ (na.sub _ _ (q6))
    refine st_many (vs := [.slice X (semiV N0 N1).1.cols.length x, .slice Y (semiV N0 N1).1.rows.length y]) rfl (hN.sub _ _ q7) rfl (by simp) (one2 _ _ _ _ _ _) ?_
    simp only [over, List.set_cons_zero, List.set_cons_succ]
    simp (maxSteps := 300000) (disch := omega) only [gs, gs2, gs3, gs4, ↓reduceIte, Nat.reduceEqDiff, Int.reduceToNat, Nat.reduceMul, Nat.reduceAdd, Nat.reduceBEq, isLd]
    exact hK _ _ b6 X x Y y ks (BoxT.mk2 hN sb n6 q7) (fun i hi => by repeat rw [upd_app, if_neg (by omega)]) (by simp (maxSteps := 300000) (disch := omega) only [gs, gs2, gs3, gs4, ↓reduceIte, Nat.reduceEqDiff, Int.reduceToNat, Nat.reduceMul, Nat.reduceAdd, Nat.reduceBEq, isLd]) (by simp (maxSteps := 300000) (disch := omega) only [gs, gs2, gs3, gs4, ↓reduceIte, Nat.reduceEqDiff, Int.reduceToNat, Nat.reduceMul, Nat.reduceAdd, Nat.reduceBEq, isLd])
theorem TabP.g1 {G : GH} {q : Nat} {N : Tab} {A B : Option Addr} {c d : Nat} {hs : Nat → Option Addr × Nat} (h : TabP G (some ⟨q, 0, none⟩) N A c B d hs) : Gh.rd G (some ⟨q, 1, none⟩) = some (.slice B N.rows.length d) := by
  have := h.f1; rwa [pa_mk] at this
theorem BoxT.p {G G' : GH} {q : Nat} {N : Tab} {A B : Option Addr} {c d : Nat} {hs : Nat → Option Addr × Nat} (h : BoxT G G' q N A c B d hs) : TabP (rest G G') (some ⟨q, 0, none⟩) N A c B d hs :=
  ⟨by simp only [rd, h.box]; rfl, by rw [pa_mk]; simp only [rd, h.box]; rfl, h.own.cols.ints, h.own.rows.rows⟩
theorem BoxT.off {G G' : GH} {q : Nat} {N : Tab} {A B : Option Addr} {c d : Nat} {hs : Nat → Option Addr × Nat} (h : BoxT G G' q N A c B d hs) : ∀ x, tabB A B hs N.rows.length x → G x = none ∧ G' x ≠ none := fun x hx => by
  have := h.own.on x hx
  cases hr : rest G G' x with
  | none => exact absurd hr this
  | some e => obtain ⟨h1, h2⟩ := rest_some.1 hr; exact ⟨h1, by rw [h2]; simp⟩
theorem sj_head {G : GH} {v0 v1 : Value} {x0 x1 : Tab} {X : GCode} (h0 : TableV G v0 x0) (h1 : TableV G v1 x1)
    (hX : ∀ (T : Nat → Value) (H : GH) (b2 b3 : Nat) (A0 B0 A1 B1 : Option Addr) (c0 d0 c1 d1 : Nat) (hs0 hs1 : Nat → Option Addr × Nat), T 2 = .pointer (some ⟨b2, 0, none⟩) → T 3 = .pointer (some ⟨b3, 0, none⟩) → TabP H (some ⟨b2, 0, none⟩) x0 A0 c0 B0 d0 hs0 → TabP H (some ⟨b3, 0, none⟩) x1 A1 c1 B1 d1 hs1 →
      x0.cols.length ≤ 2 ^ 20 → x1.cols.length ≤ 2 ^ 20 → Sm x0.rows → Sm x1.rows → pre x0.rows x0.rows.length ≤ 2 ^ 20 → pre x1.rows x1.rows.length ≤ 2 ^ 20 → gW Try.prog X (RetK [RV.t 4] fun v _ => v = .bool true) T H) :
    gW Try.prog (.seq (.reg c_laws_FnExactSemiJoin_0) (.seq (.reg c_laws_FnExactSemiJoin_1) (.seq (.reg c_laws_FnExactSemiJoin_2) (.seq (.seq (.reg c_laws_FnExactSemiJoin_3) (.cond (tt 21) (.seq (.reg c_laws_FnExactSemiJoin_4) (.ret)) (.skip))) (.seq (.reg c_laws_FnExactSemiJoin_5) (.seq (.seq (.reg c_laws_FnExactSemiJoin_6) (.cond (tt 26) (.seq (.reg c_laws_FnExactSemiJoin_7) (.ret)) (.skip))) X)))))) (RetK [RV.t 4] fun v _ => v = .bool true) (T0 [v0, v1]) G := by
  obtain ⟨A0, c0, B0, d0, H0, rfl, h0, k0, l0, m0, n0, e0, ee0⟩ := h0
  obtain ⟨A1, c1, B1, d1, H1, rfl, h1, k1, l1, m1, n1, e1, ee1⟩ := h1
  unfold tabV tabC
  simp (maxSteps := 300000) (disch := omega) only [gs, gs2, gs3, gs4, ↓reduceIte, Nat.reduceEqDiff, Int.reduceToNat, Nat.reduceMul, Nat.reduceAdd, Nat.reduceBEq, isLd]
  intro b2 hb2
  have p2 := TabP.box hb2 h0 k0
  have s2 := Sub.put hb2 ⟨tabC x0 A0 c0 B0 d0, true⟩
  unfold tabC at p2 s2
  simp (maxSteps := 300000) (disch := omega) only [gs, gs2, gs3, gs4, ↓reduceIte, Nat.reduceEqDiff, Int.reduceToNat, Nat.reduceMul, Nat.reduceAdd, Nat.reduceBEq, isLd]
  intro b3 hb3
  have p3 := TabP.box hb3 (h1.sub s2) (k1.sub s2)
  have s3 := Sub.put hb3 ⟨tabC x1 A1 c1 B1 d1, true⟩
  unfold tabC at p3 s3
  have p2 := p2.sub s3
  revert p2 p3
  generalize put (put G b2 ⟨[.slice A0 x0.cols.length c0, .slice B0 x0.rows.length d0], true⟩) b3 ⟨[.slice A1 x1.cols.length c1, .slice B1 x1.rows.length d1], true⟩ = H
  intro p3 p2
  clear s2 s3 hb2 hb3 h0 k0 h1 k1
  simp (maxSteps := 300000) (disch := omega) only [gs, gs2, gs3, gs4, ↓reduceIte, Nat.reduceEqDiff, Int.reduceToNat, Nat.reduceMul, Nat.reduceAdd, Nat.reduceBEq, isLd, p2.f0, p2.g1]
  refine laws_szTable_ok2 (N := x0) p2.rows ⟨by omega, by omega⟩ l0 m0 n0 fun q0 q0a q0b q0c => ?_
  simp (maxSteps := 300000) (disch := omega) only [gs, gs2, gs3, gs4, ↓reduceIte, Nat.reduceEqDiff, Int.reduceToNat, Nat.reduceMul, Nat.reduceAdd, Nat.reduceBEq, isLd]
  by_cases g0 : q0 < 0
  · simp (maxSteps := 300000) (disch := omega) only [gs, gs2, gs3, gs4, ↓reduceIte, Nat.reduceEqDiff, Int.reduceToNat, Nat.reduceMul, Nat.reduceAdd, Nat.reduceBEq, isLd, g0]
  simp (maxSteps := 300000) (disch := omega) only [gs, gs2, gs3, gs4, ↓reduceIte, Nat.reduceEqDiff, Int.reduceToNat, Nat.reduceMul, Nat.reduceAdd, Nat.reduceBEq, isLd, g0, p3.f0, p3.g1]
  obtain ⟨y0, w0, z0, u0⟩ := q0c (by omega)
  refine laws_szTable_ok2 (N := x1) p3.rows ⟨by omega, by omega⟩ l1 m1 n1 fun q1 q1a q1b q1c => ?_
  simp (maxSteps := 300000) (disch := omega) only [gs, gs2, gs3, gs4, ↓reduceIte, Nat.reduceEqDiff, Int.reduceToNat, Nat.reduceMul, Nat.reduceAdd, Nat.reduceBEq, isLd]
  by_cases g1 : q1 < 0
  · simp (maxSteps := 300000) (disch := omega) only [gs, gs2, gs3, gs4, ↓reduceIte, Nat.reduceEqDiff, Int.reduceToNat, Nat.reduceMul, Nat.reduceAdd, Nat.reduceBEq, isLd, g1]
  simp (maxSteps := 300000) (disch := omega) only [gs, gs2, gs3, gs4, ↓reduceIte, Nat.reduceEqDiff, Int.reduceToNat, Nat.reduceMul, Nat.reduceAdd, Nat.reduceBEq, isLd, g1]
  obtain ⟨y1, w1, z1, u1⟩ := q1c (by omega)
  exact hX _ H b2 b3 A0 B0 A1 B1 c0 d0 c1 d1 H0 H1 (by simp (maxSteps := 300000) (disch := omega) only [gs, gs2, gs3, gs4, ↓reduceIte, Nat.reduceEqDiff, Int.reduceToNat, Nat.reduceMul, Nat.reduceAdd, Nat.reduceBEq, isLd]) (by simp (maxSteps := 300000) (disch := omega) only [gs, gs2, gs3, gs4, ↓reduceIte, Nat.reduceEqDiff, Int.reduceToNat, Nat.reduceMul, Nat.reduceAdd, Nat.reduceBEq, isLd]) p2 p3 w0 w1 z0 z1 u0 u1
theorem rest_no {G G' : GH} {x : Nat} (h : G x ≠ none) : rest G G' x = none := by
  cases hr : rest G G' x with
  | none => rfl
  | some e => exact absurd (rest_some.1 hr).1 h
theorem on_sub {G G' : GH} (s : Sub G G') {x : Nat} (h : G x ≠ none) : G' x ≠ none := by
  cases hg : G x with
  | none => exact absurd hg h
  | some e => rw [s x e hg]; simp
/-- a small table. -/
def TSm (N : Tab) : Prop := N.cols.length ≤ 2 ^ 20 ∧ Sm N.rows ∧ pre N.rows N.rows.length ≤ 2 ^ 20
theorem semi_sm (a b : Tab) : TSm (semiV a b).1 := by
  by_cases h : TabOk a ∧ TabOk b
  · rw [semiV_yes h]
    show TSm (semiT a b)
    obtain ⟨hr, hc, hn⟩ := h.1.rowL
    have hlen : (semiT a b).rows.length ≤ 24 := by
      show (semiR a b).length ≤ 24
      unfold semiR
      exact Nat.le_trans (List.length_filter_le _ _) hn
    have hrow : ∀ i, i < (semiT a b).rows.length → ((semiT a b).rows.getD i []).length ≤ 8 := fun i hi => by
      have hm : (semiT a b).rows.getD i [] ∈ a.rows := by
        have : (semiT a b).rows.getD i [] ∈ (semiT a b).rows := by simp [List.getD, hi]
        have h2 : (semiT a b).rows.getD i [] ∈ semiR a b := this
        unfold semiR at h2
        exact (List.mem_filter.1 h2).1
      obtain ⟨j, hj, e⟩ := List.mem_iff_getElem.1 hm
      have := hr j hj
      rw [show a.rows.getD j [] = a.rows[j] by simp [List.getD, hj], e] at this
      omega
    have hp := pre_bd hrow _ (Nat.le_refl _)
    refine ⟨?_, ⟨by omega, fun i hi => by have := hrow i hi; omega⟩, by omega⟩
    show a.cols.length ≤ 2 ^ 20
    omega
  · rw [semiV_no h]
    exact ⟨by simp, ⟨by simp, fun i hi => by simp at hi⟩, by simp [pre]⟩
theorem sj_mid {G : GH} {x0 x1 : Tab} {X : GCode} {T : Nat → Value} {b2 b3 b6 : Nat} {A0 B0 A1 B1 Xw Yw : Option Addr} {c0 d0 c1 d1 xw yw : Nat} {hs0 hs1 kw : Nat → Option Addr × Nat} (e2 : T 2 = .pointer (some ⟨b2, 0, none⟩)) (e3 : T 3 = .pointer (some ⟨b3, 0, none⟩)) (e6 : T 6 = .pointer (some ⟨b6, 0, none⟩)) (e7 : T 7 = .int .i64 (semiV x0 x1).2)
    (p2 : TabP G (some ⟨b2, 0, none⟩) x0 A0 c0 B0 d0 hs0) (p3 : TabP G (some ⟨b3, 0, none⟩) x1 A1 c1 B1 d1 hs1) (pw : TabP G (some ⟨b6, 0, none⟩) (semiV x0 x1).1 Xw xw Yw yw kw) (l0 : x0.cols.length ≤ 2 ^ 20) (l1 : x1.cols.length ≤ 2 ^ 20) (m0 : Sm x0.rows) (m1 : Sm x1.rows) (u0 : pre x0.rows x0.rows.length ≤ 2 ^ 20) (u1 : pre x1.rows x1.rows.length ≤ 2 ^ 20)
    (hX : ∀ (T' : Nat → Value) (H : GH) (b10 : Nat) (Xg Yg : Option Addr) (xg yg : Nat) (kg : Nat → Option Addr × Nat), T' 2 = .pointer (some ⟨b2, 0, none⟩) → T' 3 = .pointer (some ⟨b3, 0, none⟩) → T' 6 = .pointer (some ⟨b6, 0, none⟩) → T' 7 = .int .i64 (semiV x0 x1).2 → T' 10 = .pointer (some ⟨b10, 0, none⟩) → T' 13 = .int .i64 (1 + (semiV x0 x1).1.cols.length + pre (semiV x0 x1).1.rows (semiV x0 x1).1.rows.length) → Sub G H →
      rd H (some ⟨b10, 0, none⟩) = some (.slice Xg (semiV x0 x1).1.cols.length xg) → rd H (some ⟨b10, 1, none⟩) = some (.slice Yg (semiV x0 x1).1.rows.length yg) → OwnT H (mkT 1 (semiV x0 x1).1) Xg xg Yg yg kg → gW Try.prog X (RetK [RV.t 4] fun v _ => v = .bool true) T' H) :
    gW Try.prog (.seq (.reg c_laws_FnExactSemiJoin_9) (.seq (.reg c_laws_FnExactSemiJoin_10) (.seq (.reg c_laws_FnExactSemiJoin_11) (.seq (.seq (.reg c_laws_FnExactSemiJoin_12) (.cond (tt 53) (.seq (.reg c_laws_FnExactSemiJoin_13) (.ret)) (.skip))) (.seq (.seq (.dreg c_laws_FnExactSemiJoin_14) (.cond (tt 58) (.seq (.reg c_laws_FnExactSemiJoin_15) (.ret)) (.skip))) (.seq (.seq (.dreg c_laws_FnExactSemiJoin_16) (.cond (tt 63) (.seq (.reg c_laws_FnExactSemiJoin_17) (.ret)) (.skip))) (.seq (.reg c_laws_FnExactSemiJoin_18) (.seq (.reg c_laws_FnExactSemiJoin_19) (.seq (.reg c_laws_FnExactSemiJoin_20) (.seq (.seq (.reg c_laws_FnExactSemiJoin_21) (.cond (tt 82) (.seq (.reg c_laws_FnExactSemiJoin_22) (.ret)) (.skip))) (.seq (.reg c_laws_FnExactSemiJoin_23) (.seq (.reg c_laws_FnExactSemiJoin_24) (.seq (.reg c_laws_FnExactSemiJoin_25) (.seq (.reg c_laws_FnExactSemiJoin_26) (.seq (.seq (.reg c_laws_FnExactSemiJoin_27) (.cond (tt 90) (.seq (.reg c_laws_FnExactSemiJoin_28) (.ret)) (.skip))) (.seq (.seq (.reg c_laws_FnExactSemiJoin_29) (.cond (tt 93) (.seq (.reg c_laws_FnExactSemiJoin_30) (.ret)) (.skip))) X)))))))))))))))) (RetK [RV.t 4] fun v _ => v = .bool true) T G := by
  have one2 : ∀ {X Y : Option Addr} {a b x y : Nat}, ∀ v ∈ [Value.slice X a x, Value.slice Y b y], oneB v = true := fun v hv => by simp at hv; rcases hv with rfl | rfl <;> rfl
  obtain ⟨vc, vm, vp⟩ := semi_sm x0 x1
  have z0 : ((semiV x0 x1).2 = (semiV x0 x1).2) = True := eq_true rfl
  -- the copies
  simp (maxSteps := 300000) (disch := omega) only [gs, gs2, gs3, gs4, ↓reduceIte, Nat.reduceEqDiff, Int.reduceToNat, Nat.reduceMul, Nat.reduceAdd, Nat.reduceBEq, isLd, e2, e3, e6, e7, p2.f0, p2.g1]
  refine laws_toTable_new p2.cols p2.rows l0 m0 fun Aa Ba ka Ga na => ?_
  unfold tabV tabC
  simp (maxSteps := 300000) (disch := omega) only [gs, gs2, gs3, gs4, ↓reduceIte, Nat.reduceEqDiff, Int.reduceToNat, Nat.reduceMul, Nat.reduceAdd, Nat.reduceBEq, isLd]
  intro b8 hb8
  simp (maxSteps := 300000) (disch := omega) only [gs, gs2, gs3, gs4, ↓reduceIte, Nat.reduceEqDiff, Int.reduceToNat, Nat.reduceMul, Nat.reduceAdd, Nat.reduceBEq, isLd]
  refine st_fresh (vs := [.slice Aa x0.cols.length x0.cols.length, .slice Ba x0.rows.length x0.rows.length]) rfl rfl rfl one2 ?_
  have ba := BoxT.mk1 na (Sub.refl G) hb8
  revert ba
  generalize put Ga b8 ⟨[.slice Aa x0.cols.length x0.cols.length, .slice Ba x0.rows.length x0.rows.length], true⟩ = G8
  intro ba
  clear na hb8
  have p38 := p3.sub ba.sub
  simp (maxSteps := 300000) (disch := omega) only [gs, gs2, gs3, gs4, ↓reduceIte, Nat.reduceEqDiff, Int.reduceToNat, Nat.reduceMul, Nat.reduceAdd, Nat.reduceBEq, isLd, e2, e3, e6, e7, p38.f0, p38.g1]
  refine laws_toTable_new p38.cols p38.rows l1 m1 fun Ab Bb kb Gb nb => ?_
  unfold tabV tabC
  simp (maxSteps := 300000) (disch := omega) only [gs, gs2, gs3, gs4, ↓reduceIte, Nat.reduceEqDiff, Int.reduceToNat, Nat.reduceMul, Nat.reduceAdd, Nat.reduceBEq, isLd]
  intro b9 hb9
  simp (maxSteps := 300000) (disch := omega) only [gs, gs2, gs3, gs4, ↓reduceIte, Nat.reduceEqDiff, Int.reduceToNat, Nat.reduceMul, Nat.reduceAdd, Nat.reduceBEq, isLd]
  refine st_fresh (vs := [.slice Ab x1.cols.length x1.cols.length, .slice Bb x1.rows.length x1.rows.length]) rfl rfl rfl one2 ?_
  have bb := BoxT.mk1 nb (Sub.refl G8) hb9
  revert bb
  generalize put Gb b9 ⟨[.slice Ab x1.cols.length x1.cols.length, .slice Bb x1.rows.length x1.rows.length], true⟩ = G9
  intro bb
  clear nb hb9 p38
  have pa9 := ba.p.sub ((Sub.rest _ _).trans bb.sub)
  have pb9 := bb.p.sub (Sub.rest _ _)
  simp (maxSteps := 300000) (disch := omega) only [gs, gs2, gs3, gs4, ↓reduceIte, Nat.reduceEqDiff, Int.reduceToNat, Nat.reduceMul, Nat.reduceAdd, Nat.reduceBEq, isLd, e2, e3, e6, e7, pa9.f0, pa9.g1, pb9.f0, pb9.g1]
  refine impl_SemiJoin_ok pa9.cols pa9.rows pb9.cols pb9.rows (by omega) (by omega) m0.sh m1.sh fun Gg Xg xg Yg yg kg hN => ?_
  unfold tabV tabC
  simp (maxSteps := 300000) (disch := omega) only [gs, gs2, gs3, gs4, ↓reduceIte, Nat.reduceEqDiff, Int.reduceToNat, Nat.reduceMul, Nat.reduceAdd, Nat.reduceBEq, isLd]
  intro b10 hb10
  simp (maxSteps := 300000) (disch := omega) only [gs, gs2, gs3, gs4, ↓reduceIte, Nat.reduceEqDiff, Int.reduceToNat, Nat.reduceMul, Nat.reduceAdd, Nat.reduceBEq, isLd]
  refine st_fresh (vs := [.slice Xg (semiV x0 x1).1.cols.length xg, .slice Yg (semiV x0 x1).1.rows.length yg]) rfl rfl rfl one2 ?_
  have bg := BoxT.mk1 hN (Sub.refl G9) hb10
  revert bg
  generalize put Gg b10 ⟨[.slice Xg (semiV x0 x1).1.cols.length xg, .slice Yg (semiV x0 x1).1.rows.length yg], true⟩ = C
  intro bg
  clear hN hb10 pa9 pb9
  have sG : Sub G C := (ba.sub.trans bb.sub).trans bg.sub
  have sa : Sub (rest G G8) C := ((Sub.rest _ _).trans bb.sub).trans bg.sub
  have sb : Sub (rest G8 G9) C := (Sub.rest _ _).trans bg.sub
  have sg : Sub (rest G9 C) C := Sub.rest _ _
  -- the results are the same
  have pg := bg.p.sub sg
  have pw' := pw.sub sG
  simp (maxSteps := 300000) (disch := omega) only [gs, gs2, gs3, gs4, ↓reduceIte, Nat.reduceEqDiff, Int.reduceToNat, Nat.reduceMul, Nat.reduceAdd, Nat.reduceBEq, isLd, e2, e3, e6, e7, pg.f0, pg.g1, pw'.f0, pw'.g1]
  refine laws_eqTable_ok pg.cols pg.rows pw'.cols pw'.rows (by omega) (by have := vm.1; omega) (fun i hi => by have := vm.2 i hi; omega) fun z hz => ?_
  obtain rfl : z = true := hz.2 rfl
  simp (maxSteps := 300000) (disch := omega) only [gs, gs2, gs3, gs4, ↓reduceIte, Nat.reduceEqDiff, Int.reduceToNat, Nat.reduceMul, Nat.reduceAdd, Nat.reduceBEq, isLd, e2, e3, e6, e7, z0]
  -- the arguments stand
  have q2 := p2.sub sG
  have q3 := p3.sub sG
  have qa := ba.p.sub sa
  have qb := bb.p.sub sb
  simp (maxSteps := 300000) (disch := omega) only [gs, gs2, gs3, gs4, ↓reduceIte, Nat.reduceEqDiff, Int.reduceToNat, Nat.reduceMul, Nat.reduceAdd, Nat.reduceBEq, isLd, e2, e3, e6, e7, qa.f0, qa.g1, q2.f0, q2.g1]
  refine laws_toTable_ok' q2.cols q2.rows l0 m0 fun Ae Be ke Ge se ie re => ?_
  simp (maxSteps := 300000) (disch := omega) only [gs, gs2, gs3, gs4, ↓reduceIte, Nat.reduceEqDiff, Int.reduceToNat, Nat.reduceMul, Nat.reduceAdd, Nat.reduceBEq, isLd, e2, e3, e6, e7, rd_sub se qa.f0, rd_sub se qa.g1, rd_sub se q2.f0, rd_sub se q2.g1]
  refine laws_eqTable_ok (N := x0) (M := x0) (qa.cols.sub se) (qa.rows.sub se) ie re (by omega) (by have := m0.1; omega) (fun i hi => by have := m0.2 i hi; omega) fun z hz => ?_
  obtain rfl : z = true := hz.2 rfl
  have sG := sG.trans se
  have sa := sa.trans se
  have sb := sb.trans se
  have sg := sg.trans se
  have q2 := p2.sub sG
  have q3 := p3.sub sG
  have qa := ba.p.sub sa
  have qb := bb.p.sub sb
  simp (maxSteps := 300000) (disch := omega) only [gs, gs2, gs3, gs4, ↓reduceIte, Nat.reduceEqDiff, Int.reduceToNat, Nat.reduceMul, Nat.reduceAdd, Nat.reduceBEq, isLd, e2, e3, e6, e7, q2.f0, q2.g1, q3.f0, q3.g1, qa.f0, qa.g1, qb.f0, qb.g1]
  refine laws_toTable_ok' q3.cols q3.rows l1 m1 fun Af Bf kf Gf sf iff rf => ?_
  simp (maxSteps := 300000) (disch := omega) only [gs, gs2, gs3, gs4, ↓reduceIte, Nat.reduceEqDiff, Int.reduceToNat, Nat.reduceMul, Nat.reduceAdd, Nat.reduceBEq, isLd, e2, e3, e6, e7, rd_sub sf qb.f0, rd_sub sf qb.g1, rd_sub sf q3.f0, rd_sub sf q3.g1]
  refine laws_eqTable_ok (N := x1) (M := x1) (qb.cols.sub sf) (qb.rows.sub sf) iff rf (by omega) (by have := m1.1; omega) (fun i hi => by have := m1.2 i hi; omega) fun z hz => ?_
  obtain rfl : z = true := hz.2 rfl
  have sG := sG.trans sf
  have sa := sa.trans sf
  have sb := sb.trans sf
  have sg := sg.trans sf
  clear q2 q3 qa qb se ie re iff rf
  -- marks in the arguments
  have q2 := p2.sub sG
  have q3 := p3.sub sG
  have qa := ba.p.sub sa
  have qb := bb.p.sub sb
  simp (maxSteps := 300000) (disch := omega) only [gs, gs2, gs3, gs4, ↓reduceIte, Nat.reduceEqDiff, Int.reduceToNat, Nat.reduceMul, Nat.reduceAdd, Nat.reduceBEq, isLd, e2, e3, e6, e7, q2.f0, q2.g1, q3.f0, q3.g1, qa.f0, qa.g1, qb.f0, qb.g1]
  refine laws_markTable_ok (ba.own.sub sa) l0 m0 u0 (by omega) fun Gh1 v1 _ => ?_
  have sG := v1.sub sG fun x hx => (ba.off x hx).1
  have sb := v1.sub sb fun x hx => rest_no (ba.off x hx).2
  have sg := v1.sub sg fun x hx => rest_no (on_sub bb.sub (ba.off x hx).2)
  have qb := bb.p.sub sb
  simp (maxSteps := 300000) (disch := omega) only [gs, gs2, gs3, gs4, ↓reduceIte, Nat.reduceEqDiff, Int.reduceToNat, Nat.reduceMul, Nat.reduceAdd, Nat.reduceBEq, isLd, e2, e3, e6, e7, qb.f0, qb.g1]
  refine laws_markTable_ok (bb.own.sub sb) l1 m1 u1 (by omega) fun Gh2 v2 _ => ?_
  have sG := v2.sub sG fun x hx => ba.sub.none (bb.off x hx).1
  have sg := v2.sub sg fun x hx => rest_no (bb.off x hx).2
  have pg := bg.p.sub sg
  have pw' := pw.sub sG
  have nn : ∀ z : Int, 0 ≤ z → (z < 0) = False := fun z hz => eq_false (by omega)
  simp (maxSteps := 300000) (disch := omega) only [gs, gs2, gs3, gs4, ↓reduceIte, Nat.reduceEqDiff, Int.reduceToNat, Nat.reduceMul, Nat.reduceAdd, Nat.reduceBEq, isLd, e2, e3, e6, e7, pg.f0, pg.g1, pw'.f0, pw'.g1, nn]
  refine laws_eqTable_ok pg.cols pg.rows pw'.cols pw'.rows (by omega) (by have := vm.1; omega) (fun i hi => by have := vm.2 i hi; omega) fun z hz => ?_
  obtain rfl : z = true := hz.2 rfl
  simp (maxSteps := 300000) (disch := omega) only [gs, gs2, gs3, gs4, ↓reduceIte, Nat.reduceEqDiff, Int.reduceToNat, Nat.reduceMul, Nat.reduceAdd, Nat.reduceBEq, isLd, e2, e3, e6, e7, z0, pg.f0, pg.g1]
  -- marks in the result
  refine laws_markTable_ok (bg.own.sub sg) vc vm vp (by omega) fun Gh3 v3 hm => ?_
  have sG := v3.sub sG fun x hx => (ba.sub.trans bb.sub).none (bg.off x hx).1
  have hb : Gh3 b10 = Gh2 b10 := v3 b10 bg.nb
  have k0 : rd Gh3 (some ⟨b10, 0, none⟩) = some (.slice Xg (semiV x0 x1).1.cols.length xg) := by
    have := pg.f0; simp only [rd] at this ⊢; rw [hb]; exact this
  have k1 : rd Gh3 (some ⟨b10, 1, none⟩) = some (.slice Yg (semiV x0 x1).1.rows.length yg) := by
    have := pg.g1; simp only [rd] at this ⊢; rw [hb]; exact this
  simp (maxSteps := 300000) (disch := omega) only [gs, gs2, gs3, gs4, ↓reduceIte, Nat.reduceEqDiff, Int.reduceToNat, Nat.reduceMul, Nat.reduceAdd, Nat.reduceBEq, isLd, e2, e3, e6, e7, k0, k1]
  refine laws_heldTable_ok hm vc vm vp (by omega) ?_
  simp (maxSteps := 300000) (disch := omega) only [gs, gs2, gs3, gs4, ↓reduceIte, Nat.reduceEqDiff, Int.reduceToNat, Nat.reduceMul, Nat.reduceAdd, Nat.reduceBEq, isLd, e2, e3, e6, e7, k0, k1, nn, eq_true (show (1 : Int) + ((semiV x0 x1).1.cols.length : Int) + (pre (semiV x0 x1).1.rows (semiV x0 x1).1.rows.length : Int) = 1 + ((semiV x0 x1).1.cols.length : Int) + (pre (semiV x0 x1).1.rows (semiV x0 x1).1.rows.length : Int) from rfl)]
  exact hX _ Gh3 b10 Xg Yg xg yg kg (by simp (maxSteps := 300000) (disch := omega) only [gs, gs2, gs3, gs4, ↓reduceIte, Nat.reduceEqDiff, Int.reduceToNat, Nat.reduceMul, Nat.reduceAdd, Nat.reduceBEq, isLd, e2]) (by simp (maxSteps := 300000) (disch := omega) only [gs, gs2, gs3, gs4, ↓reduceIte, Nat.reduceEqDiff, Int.reduceToNat, Nat.reduceMul, Nat.reduceAdd, Nat.reduceBEq, isLd, e3]) (by simp (maxSteps := 300000) (disch := omega) only [gs, gs2, gs3, gs4, ↓reduceIte, Nat.reduceEqDiff, Int.reduceToNat, Nat.reduceMul, Nat.reduceAdd, Nat.reduceBEq, isLd, e6]) (by simp (maxSteps := 300000) (disch := omega) only [gs, gs2, gs3, gs4, ↓reduceIte, Nat.reduceEqDiff, Int.reduceToNat, Nat.reduceMul, Nat.reduceAdd, Nat.reduceBEq, isLd, e7]) (by simp (maxSteps := 300000) (disch := omega) only [gs, gs2, gs3, gs4, ↓reduceIte, Nat.reduceEqDiff, Int.reduceToNat, Nat.reduceMul, Nat.reduceAdd, Nat.reduceBEq, isLd]) (by simp (maxSteps := 300000) (disch := omega) only [gs, gs2, gs3, gs4, ↓reduceIte, Nat.reduceEqDiff, Int.reduceToNat, Nat.reduceMul, Nat.reduceAdd, Nat.reduceBEq, isLd]) sG k0 k1 hm
theorem sj_tail {G : GH} {x0 x1 : Tab} {T : Nat → Value} {b2 b3 b6 b10 : Nat} {A0 B0 A1 B1 Xw Yw Xg Yg : Option Addr} {c0 d0 c1 d1 xw yw xg yg : Nat} {hs0 hs1 kw kg : Nat → Option Addr × Nat} (e2 : T 2 = .pointer (some ⟨b2, 0, none⟩)) (e3 : T 3 = .pointer (some ⟨b3, 0, none⟩)) (e6 : T 6 = .pointer (some ⟨b6, 0, none⟩)) (e7 : T 7 = .int .i64 (semiV x0 x1).2)
    (e10 : T 10 = .pointer (some ⟨b10, 0, none⟩)) (e13 : T 13 = .int .i64 (1 + (semiV x0 x1).1.cols.length + pre (semiV x0 x1).1.rows (semiV x0 x1).1.rows.length))
    (p2 : TabP G (some ⟨b2, 0, none⟩) x0 A0 c0 B0 d0 hs0) (p3 : TabP G (some ⟨b3, 0, none⟩) x1 A1 c1 B1 d1 hs1) (pw : TabP G (some ⟨b6, 0, none⟩) (semiV x0 x1).1 Xw xw Yw yw kw) (l0 : x0.cols.length ≤ 2 ^ 20) (l1 : x1.cols.length ≤ 2 ^ 20) (m0 : Sm x0.rows) (m1 : Sm x1.rows)
    (k0 : rd G (some ⟨b10, 0, none⟩) = some (.slice Xg (semiV x0 x1).1.cols.length xg)) (k1 : rd G (some ⟨b10, 1, none⟩) = some (.slice Yg (semiV x0 x1).1.rows.length yg)) (hm : OwnT G (mkT 1 (semiV x0 x1).1) Xg xg Yg yg kg) :
    gW Try.prog (.seq (.dtree c_laws_FnExactSemiJoin_31) (.seq (.seq (.reg c_laws_FnExactSemiJoin_32) (.cond (tt 110) (.seq (.reg c_laws_FnExactSemiJoin_33) (.ret)) (.skip))) (.seq (.reg c_laws_FnExactSemiJoin_34) (.seq (.reg c_laws_FnExactSemiJoin_35) (.seq (.seq (.reg c_laws_FnExactSemiJoin_36) (.cond (tt 115) (.seq (.reg c_laws_FnExactSemiJoin_37) (.ret)) (.skip))) (.seq (.seq (.reg c_laws_FnExactSemiJoin_38) (.cond (tt 118) (.seq (.reg c_laws_FnExactSemiJoin_39) (.ret)) (.skip))) (.seq (.reg c_laws_FnExactSemiJoin_40) (.ret)))))))) (RetK [RV.t 4] fun v _ => v = .bool true) T G := by
  obtain ⟨vc, vm, vp⟩ := semi_sm x0 x1
  have z0 : ((semiV x0 x1).2 = (semiV x0 x1).2) = True := eq_true rfl
  have nn : ∀ z : Int, 0 ≤ z → (z < 0) = False := fun z hz => eq_false (by omega)
  simp only [gW_seq, gW_dtree]
  refine sj_h e2 e3 p2.f0 p2.g1 p3.f0 p3.g1 p2.cols p2.rows p3.cols p3.rows l0 l1 m0 m1 fun T' G' b15 Xh xh Yh yh kh bh hT e15 e16 => ?_
  have f6 := (hT 6 (by omega)).trans e6
  have f7 := (hT 7 (by omega)).trans e7
  have f10 := (hT 10 (by omega)).trans e10
  have f13 := (hT 13 (by omega)).trans e13
  have ph := bh.p.sub (Sub.rest _ _)
  have pw' := pw.sub bh.sub
  simp (maxSteps := 300000) (disch := omega) only [gs, gs2, gs3, gs4, ↓reduceIte, Nat.reduceEqDiff, Int.reduceToNat, Nat.reduceMul, Nat.reduceAdd, Nat.reduceBEq, isLd, f6, f7, f10, f13, e15, e16, ph.f0, ph.g1, pw'.f0, pw'.g1]
  refine laws_eqTable_ok ph.cols ph.rows pw'.cols pw'.rows (by omega) (by have := vm.1; omega) (fun i hi => by have := vm.2 i hi; omega) fun z hz => ?_
  obtain rfl : z = true := hz.2 rfl
  simp (maxSteps := 300000) (disch := omega) only [gs, gs2, gs3, gs4, ↓reduceIte, Nat.reduceEqDiff, Int.reduceToNat, Nat.reduceMul, Nat.reduceAdd, Nat.reduceBEq, isLd, f6, f7, f10, f13, e15, e16, z0, rd_sub bh.sub k0, rd_sub bh.sub k1]
  refine laws_heldTable_ok (hm.sub bh.sub) vc vm vp (by omega) ?_
  simp (maxSteps := 300000) (disch := omega) only [gs, gs2, gs3, gs4, ↓reduceIte, Nat.reduceEqDiff, Int.reduceToNat, Nat.reduceMul, Nat.reduceAdd, Nat.reduceBEq, isLd, f6, f7, f10, f13, e15, e16, nn, eq_true (show (1 : Int) + ((semiV x0 x1).1.cols.length : Int) + (pre (semiV x0 x1).1.rows (semiV x0 x1).1.rows.length : Int) = 1 + ((semiV x0 x1).1.cols.length : Int) + (pre (semiV x0 x1).1.rows (semiV x0 x1).1.rows.length : Int) from rfl)]
theorem law_SemiJoin {G : GH} {v0 v1 : Value} {x0 x1 : Tab} (h0 : TableV G v0 x0) (h1 : TableV G v1 x1) : GC Try.prog 3 [v0, v1] G fun v _ => v = .bool true := by
  refine c_laws_FnExactSemiJoin_i (by simp) ?_
  refine sj_head h0 h1 fun T H b2 b3 A0 B0 A1 B1 c0 d0 c1 d1 hs0 hs1 e2 e3 p2 p3 l0 l1 m0 m1 u0 u1 => ?_
  simp only [gW_seq, gW_dtree]
  refine sj_w e2 e3 p2.f0 p2.g1 p3.f0 p3.g1 p2.cols p2.rows p3.cols p3.rows l0 l1 m0 m1 fun T' G' b6 Xw xw Yw yw kw bw hT e6 e7 => ?_
  simp only [SeqK_nrm]
  refine sj_mid ((hT 2 (by omega)).trans e2) ((hT 3 (by omega)).trans e3) e6 e7 (p2.sub bw.sub) (p3.sub bw.sub) (bw.p.sub (Sub.rest _ _)) l0 l1 m0 m1 u0 u1 fun T2 H2 b10 Xg Yg xg yg kg f2 f3 f6 f7 f10 f13 s2 k0 k1 hm => ?_
  exact sj_tail f2 f3 f6 f7 f10 f13 ((p2.sub bw.sub).sub s2) ((p3.sub bw.sub).sub s2) ((bw.p.sub (Sub.rest _ _)).sub s2) l0 l1 m0 m1 k0 k1 hm

end Go.Proofs.Ythhpbhdkhghpfaa.Gh
