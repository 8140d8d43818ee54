/- What the functions that the law WorstVertex reaches return, and the law; it stands under no condition. -/
import Derived.Test.YtdnipjkpfpahmaaGreatYWorstVertexd
namespace Go.Proofs.YtdnipjkpfpahmaaGreat.Gh
open Go Go.RowKit Go.Proofs
set_option linter.unusedVariables false
set_option linter.unusedSimpArgs false
set_option maxHeartbeats 4000000

theorem law_WorstVertex {G : GH} {v0 : Value} {v1 : Value} {x0 : Shf} {x1 : List Int} (h0 : SheafV G v0 x0) (h1 : IntsV G v1 x1) : GC Tryz.prog 6 [v0, v1] G fun v _ => v = .bool true := by
  obtain ⟨m0, rfl, h0, n0⟩ := h0
  obtain ⟨A1, c1, rfl, h1, e1, l1⟩ := h1
  refine c_laws_FnExactWorstVertex_i (by simp) ?_
  unfold shV shC
  simp (maxSteps := 300000) (disch := omega) only [gs, gs2, gs3, gs4, ↓reduceIte, Nat.reduceEqDiff, Int.reduceToNat, Nat.reduceMul, Nat.reduceAdd, Nat.reduceBEq, isLd]
  intro p0 hp0
  generalize hG1 : put G p0 ⟨[.slice m0.A x0.base.length m0.c, .int .i64 x0.p, .slice m0.S x0.st.length m0.e, .slice m0.M x0.ms.length m0.l], true⟩ = G1
  have s1 : Sub G G1 := hG1 ▸ Sub.put hp0 _
  have h0 := h0.sub s1
  have h1 := h1.sub s1
  have fa0_0 : rd G1 (some ⟨p0, 0, none⟩) = some (.slice m0.A x0.base.length m0.c) := by rw [← hG1]; exact rd_box _ _ _ 0 _ rfl
  have fa0_1 : rd G1 (some ⟨p0, 1, none⟩) = some (.int .i64 x0.p) := by rw [← hG1]; exact rd_box _ _ _ 1 _ rfl
  have fa0_2 : rd G1 (some ⟨p0, 2, none⟩) = some (.slice m0.S x0.st.length m0.e) := by rw [← hG1]; exact rd_box _ _ _ 2 _ rfl
  have fa0_3 : rd G1 (some ⟨p0, 3, none⟩) = some (.slice m0.M x0.ms.length m0.l) := by rw [← hG1]; exact rd_box _ _ _ 3 _ rfl
  simp (maxSteps := 300000) (disch := omega) only [gs, gs2, gs3, gs4, ↓reduceIte, Nat.reduceEqDiff, Int.reduceToNat, Nat.reduceMul, Nat.reduceAdd, Nat.reduceBEq, isLd, fa0_0, fa0_1, fa0_2, fa0_3]
  by_cases g1 : (1048576 : Int) < x1.length
  · simp (maxSteps := 300000) (disch := omega) only [gs, gs2, gs3, gs4, ↓reduceIte, Nat.reduceEqDiff, Int.reduceToNat, Nat.reduceMul, Nat.reduceAdd, Nat.reduceBEq, isLd, g1, fa0_0, fa0_1, fa0_2, fa0_3]
  simp (maxSteps := 300000) (disch := omega) only [gs, gs2, gs3, gs4, ↓reduceIte, Nat.reduceEqDiff, Int.reduceToNat, Nat.reduceMul, Nat.reduceAdd, Nat.reduceBEq, isLd, g1, fa0_0, fa0_1, fa0_2, fa0_3]
  refine laws_szSheaf_ok (s := x0) h0 n0 ⟨by omega, by omega⟩ fun q0 q0a q0b q0c => ?_
  simp (maxSteps := 300000) (disch := omega) only [gs, gs2, gs3, gs4, ↓reduceIte, Nat.reduceEqDiff, Int.reduceToNat, Nat.reduceMul, Nat.reduceAdd, Nat.reduceBEq, isLd, fa0_0, fa0_1, fa0_2, fa0_3]
  by_cases g0 : q0 < 0
  · simp (maxSteps := 300000) (disch := omega) only [gs, gs2, gs3, gs4, ↓reduceIte, Nat.reduceEqDiff, Int.reduceToNat, Nat.reduceMul, Nat.reduceAdd, Nat.reduceBEq, isLd, g0, fa0_0, fa0_1, fa0_2, fa0_3]
  simp (maxSteps := 300000) (disch := omega) only [gs, gs2, gs3, gs4, ↓reduceIte, Nat.reduceEqDiff, Int.reduceToNat, Nat.reduceMul, Nat.reduceAdd, Nat.reduceBEq, isLd, g0, fa0_0, fa0_1, fa0_2, fa0_3]
  have z0 := q0c (by omega)
  refine laws_toSheaf_new (s := x0) h0 z0 fun ms0 G2 ns0 => ?_
  have s2 := ns0.sub
  have h0 := h0.sub s2
  have h1 := h1.sub s2
  have fa0_0 := rd_sub s2 fa0_0
  have fa0_1 := rd_sub s2 fa0_1
  have fa0_2 := rd_sub s2 fa0_2
  have fa0_3 := rd_sub s2 fa0_3
  have hs0 := ns0.o.g
  unfold shV shC
  simp (maxSteps := 300000) (disch := omega) only [gs, gs2, gs3, gs4, ↓reduceIte, Nat.reduceEqDiff, Int.reduceToNat, Nat.reduceMul, Nat.reduceAdd, Nat.reduceBEq, isLd, fa0_0, fa0_1, fa0_2, fa0_3]
  refine laws_toInt64S_ok' (N := x1) h1 (by omega) fun As1 G3 s3 hs1 => ?_
  have h0 := h0.sub s3
  have h1 := h1.sub s3
  have hs0 := hs0.sub s3
  have fa0_0 := rd_sub s3 fa0_0
  have fa0_1 := rd_sub s3 fa0_1
  have fa0_2 := rd_sub s3 fa0_2
  have fa0_3 := rd_sub s3 fa0_3
  simp (maxSteps := 300000) (disch := omega) only [gs, gs2, gs3, gs4, ↓reduceIte, Nat.reduceEqDiff, Int.reduceToNat, Nat.reduceMul, Nat.reduceAdd, Nat.reduceBEq, isLd, fa0_0, fa0_1, fa0_2, fa0_3]
  refine spec_WorstVertex_ok hs0 z0.sm hs1 (by omega) ?_
  simp (maxSteps := 300000) (disch := omega) only [gs, gs2, gs3, gs4, ↓reduceIte, Nat.reduceEqDiff, Int.reduceToNat, Nat.reduceMul, Nat.reduceAdd, Nat.reduceBEq, isLd, tripV, fa0_0, fa0_1, fa0_2, fa0_3]
  refine laws_toSheaf_new (s := x0) h0 z0 fun mi0 G4 ni0 => ?_
  have s4 := ni0.sub
  have h0 := h0.sub s4
  have h1 := h1.sub s4
  have hs0 := hs0.sub s4
  have hs1 := hs1.sub s4
  have fa0_0 := rd_sub s4 fa0_0
  have fa0_1 := rd_sub s4 fa0_1
  have fa0_2 := rd_sub s4 fa0_2
  have fa0_3 := rd_sub s4 fa0_3
  have hi0 := ni0.o.g
  unfold shV shC
  simp (maxSteps := 300000) (disch := omega) only [gs, gs2, gs3, gs4, ↓reduceIte, Nat.reduceEqDiff, Int.reduceToNat, Nat.reduceMul, Nat.reduceAdd, Nat.reduceBEq, isLd, fa0_0, fa0_1, fa0_2, fa0_3]
  intro p2 hp2
  simp (maxSteps := 300000) (disch := omega) only [gs, gs2, gs3, gs4, ↓reduceIte, Nat.reduceEqDiff, Int.reduceToNat, Nat.reduceMul, Nat.reduceAdd, Nat.reduceBEq, isLd, fa0_0, fa0_1, fa0_2, fa0_3]
  refine st_fresh (vs := [.slice mi0.A x0.base.length mi0.c, .int .i64 x0.p, .slice mi0.S x0.st.length mi0.e, .slice mi0.M x0.ms.length mi0.l]) rfl rfl rfl (by intro v hv; simp only [List.mem_cons, List.not_mem_nil, or_false] at hv; rcases hv with rfl | rfl | rfl | rfl <;> rfl) ?_
  generalize hG5 : put G4 p2 ⟨[.slice mi0.A x0.base.length mi0.c, .int .i64 x0.p, .slice mi0.S x0.st.length mi0.e, .slice mi0.M x0.ms.length mi0.l], true⟩ = G5
  have s5 : Sub G4 G5 := hG5 ▸ Sub.put hp2 _
  have h0 := h0.sub s5
  have h1 := h1.sub s5
  have hs0 := hs0.sub s5
  have hs1 := hs1.sub s5
  have hi0 := hi0.sub s5
  have fa0_0 := rd_sub s5 fa0_0
  have fa0_1 := rd_sub s5 fa0_1
  have fa0_2 := rd_sub s5 fa0_2
  have fa0_3 := rd_sub s5 fa0_3
  have fi0_0 : rd G5 (some ⟨p2, 0, none⟩) = some (.slice mi0.A x0.base.length mi0.c) := by rw [← hG5]; exact rd_box _ _ _ 0 _ rfl
  have fi0_1 : rd G5 (some ⟨p2, 1, none⟩) = some (.int .i64 x0.p) := by rw [← hG5]; exact rd_box _ _ _ 1 _ rfl
  have fi0_2 : rd G5 (some ⟨p2, 2, none⟩) = some (.slice mi0.S x0.st.length mi0.e) := by rw [← hG5]; exact rd_box _ _ _ 2 _ rfl
  have fi0_3 : rd G5 (some ⟨p2, 3, none⟩) = some (.slice mi0.M x0.ms.length mi0.l) := by rw [← hG5]; exact rd_box _ _ _ 3 _ rfl
  simp (maxSteps := 300000) (disch := omega) only [gs, gs2, gs3, gs4, ↓reduceIte, Nat.reduceEqDiff, Int.reduceToNat, Nat.reduceMul, Nat.reduceAdd, Nat.reduceBEq, isLd, fa0_0, fa0_1, fa0_2, fa0_3, fi0_0, fi0_1, fi0_2, fi0_3]
  refine laws_toInt64S_ok' (N := x1) h1 (by omega) fun Ai1 G6 s6 hi1 => ?_
  have h0 := h0.sub s6
  have h1 := h1.sub s6
  have hs0 := hs0.sub s6
  have hs1 := hs1.sub s6
  have hi0 := hi0.sub s6
  have fa0_0 := rd_sub s6 fa0_0
  have fa0_1 := rd_sub s6 fa0_1
  have fa0_2 := rd_sub s6 fa0_2
  have fa0_3 := rd_sub s6 fa0_3
  have fi0_0 := rd_sub s6 fi0_0
  have fi0_1 := rd_sub s6 fi0_1
  have fi0_2 := rd_sub s6 fi0_2
  have fi0_3 := rd_sub s6 fi0_3
  simp (maxSteps := 300000) (disch := omega) only [gs, gs2, gs3, gs4, ↓reduceIte, Nat.reduceEqDiff, Int.reduceToNat, Nat.reduceMul, Nat.reduceAdd, Nat.reduceBEq, isLd, fa0_0, fa0_1, fa0_2, fa0_3, fi0_0, fi0_1, fi0_2, fi0_3]
  refine impl_WorstVertex_ok hi0 z0.sm hi1 (by omega) ?_
  simp (maxSteps := 300000) (disch := omega) only [gs, gs2, gs3, gs4, ↓reduceIte, Nat.reduceEqDiff, Int.reduceToNat, Nat.reduceMul, Nat.reduceAdd, Nat.reduceBEq, isLd, tripV, eq_self, fa0_0, fa0_1, fa0_2, fa0_3, fi0_0, fi0_1, fi0_2, fi0_3]
  refine laws_toSheaf_new (s := x0) h0 z0 fun me0 G7 ne0 => ?_
  have s7 := ne0.sub
  have h0 := h0.sub s7
  have h1 := h1.sub s7
  have hs0 := hs0.sub s7
  have hs1 := hs1.sub s7
  have hi0 := hi0.sub s7
  have hi1 := hi1.sub s7
  have fa0_0 := rd_sub s7 fa0_0
  have fa0_1 := rd_sub s7 fa0_1
  have fa0_2 := rd_sub s7 fa0_2
  have fa0_3 := rd_sub s7 fa0_3
  have fi0_0 := rd_sub s7 fi0_0
  have fi0_1 := rd_sub s7 fi0_1
  have fi0_2 := rd_sub s7 fi0_2
  have fi0_3 := rd_sub s7 fi0_3
  have he0 := ne0.o.g
  unfold shV shC
  simp (maxSteps := 300000) (disch := omega) only [gs, gs2, gs3, gs4, ↓reduceIte, Nat.reduceEqDiff, Int.reduceToNat, Nat.reduceMul, Nat.reduceAdd, Nat.reduceBEq, isLd, fa0_0, fa0_1, fa0_2, fa0_3, fi0_0, fi0_1, fi0_2, fi0_3]
  refine laws_eqSheaf_ok (s := x0) hi0 he0 z0 ?_
  simp (maxSteps := 300000) (disch := omega) only [gs, gs2, gs3, gs4, ↓reduceIte, Nat.reduceEqDiff, Int.reduceToNat, Nat.reduceMul, Nat.reduceAdd, Nat.reduceBEq, isLd, fa0_0, fa0_1, fa0_2, fa0_3, fi0_0, fi0_1, fi0_2, fi0_3]
  refine laws_toInt64S_ok' (N := x1) h1 (by omega) fun Ae1 G8 s8 he1 => ?_
  have h0 := h0.sub s8
  have h1 := h1.sub s8
  have hs0 := hs0.sub s8
  have hs1 := hs1.sub s8
  have hi0 := hi0.sub s8
  have hi1 := hi1.sub s8
  have he0 := he0.sub s8
  have fa0_0 := rd_sub s8 fa0_0
  have fa0_1 := rd_sub s8 fa0_1
  have fa0_2 := rd_sub s8 fa0_2
  have fa0_3 := rd_sub s8 fa0_3
  have fi0_0 := rd_sub s8 fi0_0
  have fi0_1 := rd_sub s8 fi0_1
  have fi0_2 := rd_sub s8 fi0_2
  have fi0_3 := rd_sub s8 fi0_3
  simp (maxSteps := 300000) (disch := omega) only [gs, gs2, gs3, gs4, ↓reduceIte, Nat.reduceEqDiff, Int.reduceToNat, Nat.reduceMul, Nat.reduceAdd, Nat.reduceBEq, isLd, fa0_0, fa0_1, fa0_2, fa0_3, fi0_0, fi0_1, fi0_2, fi0_3]
  refine laws_eqInt64S_ok hi1 he1 (by omega) ?_
  simp (maxSteps := 300000) (disch := omega) only [gs, gs2, gs3, gs4, ↓reduceIte, Nat.reduceEqDiff, Int.reduceToNat, Nat.reduceMul, Nat.reduceAdd, Nat.reduceBEq, isLd, eq_self, fa0_0, fa0_1, fa0_2, fa0_3, fi0_0, fi0_1, fi0_2, fi0_3]

end Go.Proofs.YtdnipjkpfpahmaaGreat.Gh
