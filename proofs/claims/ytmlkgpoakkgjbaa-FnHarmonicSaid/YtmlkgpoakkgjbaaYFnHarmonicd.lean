/- What the functions that the law FnHarmonic reaches return, and the law; it stands under no condition. -/
import Derived.Test.YtmlkgpoakkgjbaaYFnHarmonicc
namespace Go.Proofs.Ytmlkgpoakkgjbaa.Gh
open Go Go.RowKit Go.Proofs
set_option linter.unusedVariables false
set_option linter.unusedSimpArgs false
set_option maxHeartbeats 4000000

theorem hr_rest {G : GH} {A1 : Option Addr} {x1 c1 : Nat} {T : Nat → Value} (e1 : T 1 = .slice A1 x1 c1) (hB : BytS G A1 x1 c1) : gW Try.prog hrRest (RetK [RV.t 4] fun v _ => v = .bool true) T G := by
  simp (maxSteps := 300000) (disch := omega) only [gs, gs2, gs3, gs4, ↓reduceIte, Nat.reduceEqDiff, Int.reduceToNat, Nat.reduceMul, Nat.reduceAdd, Nat.reduceBEq, isLd, e1]
  refine spec_DrawCutWeight_ok hB fun G1 N Ap cp fs Cp ep hA hF hO hC s1 => ?_
  have hT := hO.t3
  have hC := hC.ints
  have hnl := hA.len
  have hfl := hF.1
  clear hO
  unfold graV graC
  simp (maxSteps := 300000) (disch := omega) only [gs, gs2, gs3, gs4, ↓reduceIte, Nat.reduceEqDiff, Int.reduceToNat, Nat.reduceMul, Nat.reduceAdd, Nat.reduceBEq, isLd]
  intro b5 hb5
  simp (maxSteps := 300000) (disch := omega) only [gs, gs2, gs3, gs4, ↓reduceIte, Nat.reduceEqDiff, Int.reduceToNat, Nat.reduceMul, Nat.reduceAdd, Nat.reduceBEq, isLd]
  refine st_fresh (vs := graC N Ap cp) rfl rfl rfl (by intro v hv; simp [graC] at hv; rcases hv with rfl | rfl <;> rfl) ?_
  have s5 := Sub.put hb5 ⟨graC N Ap cp, true⟩
  have k0 : rd (put G1 b5 ⟨graC N Ap cp, true⟩) (some ⟨b5, 0, none⟩) = some (.int .i64 N.n) := rd_box _ _ _ 0 _ rfl
  have k1 : rd (put G1 b5 ⟨graC N Ap cp, true⟩) (some ⟨b5, 1, none⟩) = some (.slice Ap N.edges.length cp) := rd_box _ _ _ 1 _ rfl
  have hT := hT.sub s5
  have hC := hC.sub s5
  revert k0 k1 hT hC
  generalize put G1 b5 ⟨graC N Ap cp, true⟩ = H
  intro k0 k1 hT hC
  clear s5 s1 hb5 hB
  simp (maxSteps := 300000) (disch := omega) only [gs, gs2, gs3, gs4, ↓reduceIte, Nat.reduceEqDiff, Int.reduceToNat, Nat.reduceMul, Nat.reduceAdd, Nat.reduceBEq, isLd, k0, k1]
  refine impl_CutWeight_ok (N := N) hT hC (by omega) (by omega) ?_
  unfold pairV
  simp (maxSteps := 300000) (disch := omega) only [gs, gs2, gs3, gs4, ↓reduceIte, Nat.reduceEqDiff, Int.reduceToNat, Nat.reduceMul, Nat.reduceAdd, Nat.reduceBEq, isLd, k0, k1]
  refine impl_LightestCut_ok (N := N) hT (by omega) fun G2 Ay cy hN2 => ?_
  have s2 := hN2.sub
  have hY := hN2.ints
  have q0 := rd_sub s2 k0
  have q1 := rd_sub s2 k1
  have hT2 := hT.sub s2
  have hll := lightV_len N
  clear hN2
  have w0 : (cutV N fs).2 ≠ 0 → (cutV N fs).1 = 0 := fun h => by
    unfold cutV at h ⊢
    (repeat' split) <;> simp_all
  have hle : (lightV N).2.2 ≠ 0 → ((lightV N).1.length : Int) = 0 := fun h => by
    unfold lightV at h ⊢
    (repeat' split) <;> simp_all
  have z0 : ((0 : Int) = 0) = True := eq_true rfl
  by_cases g1 : (lightV N).2.2 = 0
  rotate_left
  · have hlen := hle g1
    by_cases g0 : (cutV N fs).2 = 0
    · simp (maxSteps := 300000) (disch := omega) only [gs, gs2, gs3, gs4, ↓reduceIte, Nat.reduceEqDiff, Int.reduceToNat, Nat.reduceMul, Nat.reduceAdd, Nat.reduceBEq, isLd, eq_true g0, eq_false g1, eq_true hlen, z0]
    · simp (maxSteps := 300000) (disch := omega) only [gs, gs2, gs3, gs4, ↓reduceIte, Nat.reduceEqDiff, Int.reduceToNat, Nat.reduceMul, Nat.reduceAdd, Nat.reduceBEq, isLd, eq_false g0, eq_true (w0 g0), eq_false g1, eq_true hlen, z0]
  by_cases g0 : (cutV N fs).2 = 0
  rotate_left
  · simp (maxSteps := 300000) (disch := omega) only [gs, gs2, gs3, gs4, ↓reduceIte, Nat.reduceEqDiff, Int.reduceToNat, Nat.reduceMul, Nat.reduceAdd, Nat.reduceBEq, isLd, eq_false g0, eq_true (w0 g0), eq_true g1, z0]
  obtain ⟨hn, hbs, hbw, hb0, hbn, hbf, hbm⟩ := light_law g1
  have hcf : SetOk N fs ∧ (cutV N fs).1 = cwK N.edges fs N.edges.length := by
    unfold cutV at g0 ⊢
    by_cases hs : SetOk N fs
    · rw [if_pos hn, if_pos hs]; exact ⟨hs, rfl⟩
    · rw [if_pos hn, if_neg hs] at g0; exact absurd g0 (by decide)
  have hmin := hbm fs hcf.1
  rw [hcf.2]
  have hcb : cutV N (lightV N).1 = ((lightV N).2.1, 0) := by unfold cutV; rw [if_pos hn, if_pos hbs, hbw]
  have rY := hY.rd 0 hb0
  have sY := hY.sn hb0
  rw [hbf] at rY
  have rY2 := rY
  rw [pa_zero] at rY2
  have c0 : IntS H Cp ep fs := hC
  generalize (lightV N).1 = best at *
  generalize (lightV N).2.1 = least at *
  generalize cwK N.edges fs N.edges.length = w at *
  simp (maxSteps := 300000) (disch := omega) only [gs, gs2, gs3, gs4, ↓reduceIte, Nat.reduceEqDiff, Int.reduceToNat, Nat.reduceMul, Nat.reduceAdd, Nat.reduceBEq, isLd, eq_true g0, eq_true g1, q0, q1, z0]
  refine impl_CutWeight_ok (N := N) hT2 hY (by omega) (by omega) ?_
  rw [hcb]
  unfold pairV
  have l1 : ((0 : Int) < best.length) = True := eq_true (by omega)
  have l2 : ((best.length : Int) < N.n) = True := eq_true (by omega)
  by_cases a1 : (fs.length : Int) = 0
  · simp (maxSteps := 300000) (disch := omega) only [gs, gs2, gs3, gs4, ↓reduceIte, Nat.reduceEqDiff, Int.reduceToNat, Nat.reduceMul, Nat.reduceAdd, Nat.reduceBEq, isLd, z0, q0, q1, l1, l2, rY, rY2, eq_true (show least = least from rfl), eq_true a1]
  by_cases a2 : (fs.length : Int) = N.n
  · simp (maxSteps := 300000) (disch := omega) only [gs, gs2, gs3, gs4, ↓reduceIte, Nat.reduceEqDiff, Int.reduceToNat, Nat.reduceMul, Nat.reduceAdd, Nat.reduceBEq, isLd, z0, q0, q1, l1, l2, rY, rY2, eq_true (show least = least from rfl), eq_false a1, eq_true a2]
  · have l3 : (least ≤ w) = True := eq_true (hmin (by omega) a2)
    simp (maxSteps := 300000) (disch := omega) only [gs, gs2, gs3, gs4, ↓reduceIte, Nat.reduceEqDiff, Int.reduceToNat, Nat.reduceMul, Nat.reduceAdd, Nat.reduceBEq, isLd, z0, q0, q1, l1, l2, rY, rY2, eq_true (show least = least from rfl), eq_false a1, eq_false a2, l3]
theorem law_FnHarmonic {G : GH} {v0 v1 : Value} {x0 x1 : Nat} (h0 : BytesV G v0 x0) (h1 : BytesV G v1 x1) : GC Try.prog 18 [v0, v1] G fun v _ => v = .bool true := by
  refine c_laws_FnHarmonic_i (by simp) ?_
  refine hr_h (X := .seq hrIf hrRest) h0 h1 fun T' H N p fs vs A1 Ap Cp Bp Ax c1 cp ep dp cx b5 e1 hB e5 e6 e7 e8 e9 e10 k0 k1 hT hC hV hR l1 l2 l3 => ?_
  exact hr_if e1 hB e5 e6 e7 e8 e9 e10 k0 k1 hT hC hV hR l1 l2 l3 fun T2 G2 e1' hB' => hr_rest e1' hB'

end Go.Proofs.Ytmlkgpoakkgjbaa.Gh
