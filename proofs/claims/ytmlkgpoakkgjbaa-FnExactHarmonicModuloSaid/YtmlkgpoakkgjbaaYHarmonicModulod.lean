/- What the functions that the law HarmonicModulo reaches return, and the law; it stands under no condition. -/
import Derived.Test.YtmlkgpoakkgjbaaYHarmonicModuloc
namespace Go.Proofs.Ytmlkgpoakkgjbaa.Gh
open Go Go.RowKit Go.Proofs
set_option linter.unusedVariables false
set_option linter.unusedSimpArgs false
set_option maxHeartbeats 4000000

theorem law_HarmonicModulo {G : GH} {v0 : Value} {v1 : Value} {v2 : Value} {v3 : Value} {x0 : Gra} {x1 : Int} {x2 : List Int} {x3 : List Int} (h0 : GraphV G v0 x0) (h1 : IntV G v1 x1) (h2 : IntsV G v2 x2) (h3 : IntsV G v3 x3) : GC Try.prog 17 [v0, v1, v2, v3] G fun v _ => v = .bool true := by
  obtain ⟨A0, c0, rfl, h0, e0, l0, rn0⟩ := h0
  obtain ⟨rfl, e1⟩ := h1
  obtain ⟨A2, c2, rfl, h2, e2, l2⟩ := h2
  obtain ⟨A3, c3, rfl, h3, e3, l3⟩ := h3
  refine c_laws_FnExactHarmonicModulo_i (by simp) ?_
  unfold graV graC
  simp (maxSteps := 300000) (disch := omega) only [gs, gs2, gs3, gs4, ↓reduceIte, Nat.reduceEqDiff, Int.reduceToNat, Nat.reduceMul, Nat.reduceAdd, Nat.reduceBEq, isLd]
  have s_b := Sub.refl G
  intro p0 hp0
  generalize hG1 : put G p0 ⟨[.int .i64 x0.n, .slice A0 x0.edges.length c0], true⟩ = G1
  have t1 : Sub G G1 := hG1 ▸ Sub.put hp0 _
  have h0 := h0.sub t1
  have h2 := h2.sub t1
  have h3 := h3.sub t1
  have fa0_0 : rd G1 (some ⟨p0, 0, none⟩) = some (.int .i64 x0.n) := by rw [← hG1]; exact rd_box _ _ _ 0 _ rfl
  have fa0_1 : rd G1 (some ⟨p0, 1, none⟩) = some (.slice A0 x0.edges.length c0) := by rw [← hG1]; exact rd_box _ _ _ 1 _ rfl
  have s_b := Sub.refl G1
  have fa0_0c := rd_sub s_b fa0_0
  have fa0_1c := rd_sub s_b fa0_1
  simp (maxSteps := 300000) (disch := omega) only [gs, gs2, gs3, gs4, ↓reduceIte, Nat.reduceEqDiff, Int.reduceToNat, Nat.reduceMul, Nat.reduceAdd, Nat.reduceBEq, isLd, fa0_0c, fa0_1c]
  by_cases g2 : (1048576 : Int) < x2.length
  · simp (maxSteps := 300000) (disch := omega) only [gs, gs2, gs3, gs4, ↓reduceIte, Nat.reduceEqDiff, Int.reduceToNat, Nat.reduceMul, Nat.reduceAdd, Nat.reduceBEq, isLd, g2, fa0_0c, fa0_1c]
  simp (maxSteps := 300000) (disch := omega) only [gs, gs2, gs3, gs4, ↓reduceIte, Nat.reduceEqDiff, Int.reduceToNat, Nat.reduceMul, Nat.reduceAdd, Nat.reduceBEq, isLd, g2, fa0_0c, fa0_1c]
  by_cases g3 : (1048576 : Int) < x3.length
  · simp (maxSteps := 300000) (disch := omega) only [gs, gs2, gs3, gs4, ↓reduceIte, Nat.reduceEqDiff, Int.reduceToNat, Nat.reduceMul, Nat.reduceAdd, Nat.reduceBEq, isLd, g3, fa0_0c, fa0_1c]
  simp (maxSteps := 300000) (disch := omega) only [gs, gs2, gs3, gs4, ↓reduceIte, Nat.reduceEqDiff, Int.reduceToNat, Nat.reduceMul, Nat.reduceAdd, Nat.reduceBEq, isLd, g3, fa0_0c, fa0_1c]
  refine laws_szGraph_ok (N := x0) ⟨by omega, by omega⟩ (by omega) fun q0 q0a q0b q0c => ?_
  simp (maxSteps := 300000) (disch := omega) only [gs, gs2, gs3, gs4, ↓reduceIte, Nat.reduceEqDiff, Int.reduceToNat, Nat.reduceMul, Nat.reduceAdd, Nat.reduceBEq, isLd, fa0_0c, fa0_1c]
  by_cases g0 : q0 < 0
  · simp (maxSteps := 300000) (disch := omega) only [gs, gs2, gs3, gs4, ↓reduceIte, Nat.reduceEqDiff, Int.reduceToNat, Nat.reduceMul, Nat.reduceAdd, Nat.reduceBEq, isLd, g0, fa0_0c, fa0_1c]
  simp (maxSteps := 300000) (disch := omega) only [gs, gs2, gs3, gs4, ↓reduceIte, Nat.reduceEqDiff, Int.reduceToNat, Nat.reduceMul, Nat.reduceAdd, Nat.reduceBEq, isLd, g0, fa0_0c, fa0_1c]
  refine laws_toGraph_new (N := x0) (h0.sub s_b) (by omega) fun As0 G2 n_s0 => ?_
  have o_s0 := n_s0.own
  have t_s0 := n_s0.sub
  have s_b := s_b.trans t_s0
  have fa0_0c := rd_sub s_b fa0_0
  have fa0_1c := rd_sub s_b fa0_1
  have s_s0 := Sub.rest G1 G2
  simp (maxSteps := 300000) (disch := omega) only [gs, gs2, gs3, gs4, ↓reduceIte, Nat.reduceEqDiff, Int.reduceToNat, Nat.reduceMul, Nat.reduceAdd, Nat.reduceBEq, isLd, fa0_0c, fa0_1c]
  refine laws_toInt64S_new (N := x2) (h2.sub s_b) (by omega) fun As2 G3 n_s2 => ?_
  have o_s2 := n_s2.own
  have t_s2 := n_s2.sub
  have s_b := s_b.trans t_s2
  have s_s0 := s_s0.trans t_s2
  have fa0_0c := rd_sub s_b fa0_0
  have fa0_1c := rd_sub s_b fa0_1
  have s_s2 := Sub.rest G2 G3
  simp (maxSteps := 300000) (disch := omega) only [gs, gs2, gs3, gs4, ↓reduceIte, Nat.reduceEqDiff, Int.reduceToNat, Nat.reduceMul, Nat.reduceAdd, Nat.reduceBEq, isLd, fa0_0c, fa0_1c]
  refine laws_toInt64S_new (N := x3) (h3.sub s_b) (by omega) fun As3 G4 n_s3 => ?_
  have o_s3 := n_s3.own
  have t_s3 := n_s3.sub
  have s_b := s_b.trans t_s3
  have s_s0 := s_s0.trans t_s3
  have s_s2 := s_s2.trans t_s3
  have fa0_0c := rd_sub s_b fa0_0
  have fa0_1c := rd_sub s_b fa0_1
  have s_s3 := Sub.rest G3 G4
  simp (maxSteps := 300000) (disch := omega) only [gs, gs2, gs3, gs4, ↓reduceIte, Nat.reduceEqDiff, Int.reduceToNat, Nat.reduceMul, Nat.reduceAdd, Nat.reduceBEq, isLd, fa0_0c, fa0_1c]
  have hlen : (harV x0 x1 x2 x3).1.length ≤ 2 ^ 20 := har_len x0 x1 x2 x3
  refine spec_HarmonicModulo_ok (o_s0.sub s_s0).t3 (o_s2.sub s_s2).ints (o_s3.sub s_s3).ints (by omega) (by omega) (by omega) fun G5 Aw cw n_w => ?_
  have o_w := n_w.own
  have f_b_w : Off G1 Aw := n_w.off.mono s_b
  have t_w := n_w.sub
  have s_b := s_b.trans t_w
  have fa0_0c := rd_sub s_b fa0_0
  have fa0_1c := rd_sub s_b fa0_1
  have s_w : Sub (rest G4 G5) G5 := Sub.rest _ _
  simp (maxSteps := 300000) (disch := omega) only [gs, gs2, gs3, gs4, ↓reduceIte, Nat.reduceEqDiff, Int.reduceToNat, Nat.reduceMul, Nat.reduceAdd, Nat.reduceBEq, isLd, fa0_0c, fa0_1c]
  refine laws_toGraph_new (N := x0) (h0.sub s_b) (by omega) fun Ai0 G6 n_i0 => ?_
  have o_i0 := n_i0.own
  have f_b_i0 : Off G1 Ai0 := n_i0.off.mono s_b
  have f_w_i0 : Off (rest G4 G5) Ai0 := n_i0.off.mono s_w
  have f_i0_w : Off (rest G5 G6) Aw := Off.rest (own_ne (o_w.sub s_w))
  have t_i0 := n_i0.sub
  have s_b := s_b.trans t_i0
  have s_w := s_w.trans t_i0
  have fa0_0c := rd_sub s_b fa0_0
  have fa0_1c := rd_sub s_b fa0_1
  have s_i0 : Sub (rest G5 G6) G6 := Sub.rest _ _
  simp (maxSteps := 300000) (disch := omega) only [gs, gs2, gs3, gs4, ↓reduceIte, Nat.reduceEqDiff, Int.reduceToNat, Nat.reduceMul, Nat.reduceAdd, Nat.reduceBEq, isLd, fa0_0c, fa0_1c]
  intro p4 hp4
  simp (maxSteps := 300000) (disch := omega) only [gs, gs2, gs3, gs4, ↓reduceIte, Nat.reduceEqDiff, Int.reduceToNat, Nat.reduceMul, Nat.reduceAdd, Nat.reduceBEq, isLd, fa0_0c, fa0_1c]
  refine st_fresh (vs := [.int .i64 x0.n, .slice Ai0 x0.edges.length x0.edges.length]) rfl rfl rfl (by intro v hv; simp only [List.mem_cons, List.not_mem_nil, or_false] at hv; rcases hv with rfl | rfl <;> rfl) ?_
  have b_x0 := box_rest (cs := [.int .i64 x0.n, .slice Ai0 x0.edges.length x0.edges.length]) hp4
  have f_x0_w : Off (rest G6 (put G6 p4 ⟨[.int .i64 x0.n, .slice Ai0 x0.edges.length x0.edges.length], true⟩)) Aw := Off.rest (own_ne (o_w.sub s_w))
  have f_x0_i0 : Off (rest G6 (put G6 p4 ⟨[.int .i64 x0.n, .slice Ai0 x0.edges.length x0.edges.length], true⟩)) Ai0 := Off.rest (own_ne (o_i0.sub s_i0))
  have t_x0 := Sub.put hp4 ⟨[.int .i64 x0.n, .slice Ai0 x0.edges.length x0.edges.length], true⟩
  have s_x0 : Sub (rest G6 (put G6 p4 ⟨[.int .i64 x0.n, .slice Ai0 x0.edges.length x0.edges.length], true⟩)) _ := Sub.rest _ (put G6 p4 ⟨[.int .i64 x0.n, .slice Ai0 x0.edges.length x0.edges.length], true⟩)
  have fi0_0 := b_x0 0 _ rfl
  have fi0_1 := b_x0 1 _ rfl
  revert b_x0 f_x0_w f_x0_i0 t_x0 s_x0 fi0_0 fi0_1
  generalize rest G6 (put G6 p4 ⟨[.int .i64 x0.n, .slice Ai0 x0.edges.length x0.edges.length], true⟩) = Hx0
  generalize put G6 p4 ⟨[.int .i64 x0.n, .slice Ai0 x0.edges.length x0.edges.length], true⟩ = G7
  intro b_x0 f_x0_w f_x0_i0 t_x0 s_x0 fi0_0 fi0_1
  have s_b := s_b.trans t_x0
  have s_w := s_w.trans t_x0
  have s_i0 := s_i0.trans t_x0
  have fa0_0c := rd_sub s_b fa0_0
  have fa0_1c := rd_sub s_b fa0_1
  have fi0_0c := rd_sub s_x0 fi0_0
  have fi0_1c := rd_sub s_x0 fi0_1
  simp (maxSteps := 300000) (disch := omega) only [gs, gs2, gs3, gs4, ↓reduceIte, Nat.reduceEqDiff, Int.reduceToNat, Nat.reduceMul, Nat.reduceAdd, Nat.reduceBEq, isLd, fa0_0c, fa0_1c, fi0_0c, fi0_1c]
  refine laws_toInt64S_new (N := x2) (h2.sub s_b) (by omega) fun Ai2 G8 n_i2 => ?_
  have o_i2 := n_i2.own
  have f_b_i2 : Off G1 Ai2 := n_i2.off.mono s_b
  have f_w_i2 : Off (rest G4 G5) Ai2 := n_i2.off.mono s_w
  have f_i0_i2 : Off (rest G5 G6) Ai2 := n_i2.off.mono s_i0
  have f_x0_i2 : Off Hx0 Ai2 := n_i2.off.mono s_x0
  have f_i2_w : Off (rest G7 G8) Aw := Off.rest (own_ne (o_w.sub s_w))
  have f_i2_i0 : Off (rest G7 G8) Ai0 := Off.rest (own_ne (o_i0.sub s_i0))
  have t_i2 := n_i2.sub
  have s_b := s_b.trans t_i2
  have s_w := s_w.trans t_i2
  have s_i0 := s_i0.trans t_i2
  have s_x0 := s_x0.trans t_i2
  have fa0_0c := rd_sub s_b fa0_0
  have fa0_1c := rd_sub s_b fa0_1
  have fi0_0c := rd_sub s_x0 fi0_0
  have fi0_1c := rd_sub s_x0 fi0_1
  have s_i2 : Sub (rest G7 G8) G8 := Sub.rest _ _
  simp (maxSteps := 300000) (disch := omega) only [gs, gs2, gs3, gs4, ↓reduceIte, Nat.reduceEqDiff, Int.reduceToNat, Nat.reduceMul, Nat.reduceAdd, Nat.reduceBEq, isLd, fa0_0c, fa0_1c, fi0_0c, fi0_1c]
  refine laws_toInt64S_new (N := x3) (h3.sub s_b) (by omega) fun Ai3 G9 n_i3 => ?_
  have o_i3 := n_i3.own
  have f_b_i3 : Off G1 Ai3 := n_i3.off.mono s_b
  have f_w_i3 : Off (rest G4 G5) Ai3 := n_i3.off.mono s_w
  have f_i0_i3 : Off (rest G5 G6) Ai3 := n_i3.off.mono s_i0
  have f_x0_i3 : Off Hx0 Ai3 := n_i3.off.mono s_x0
  have f_i2_i3 : Off (rest G7 G8) Ai3 := n_i3.off.mono s_i2
  have f_i3_w : Off (rest G8 G9) Aw := Off.rest (own_ne (o_w.sub s_w))
  have f_i3_i0 : Off (rest G8 G9) Ai0 := Off.rest (own_ne (o_i0.sub s_i0))
  have f_i3_i2 : Off (rest G8 G9) Ai2 := Off.rest (own_ne (o_i2.sub s_i2))
  have t_i3 := n_i3.sub
  have s_b := s_b.trans t_i3
  have s_w := s_w.trans t_i3
  have s_i0 := s_i0.trans t_i3
  have s_x0 := s_x0.trans t_i3
  have s_i2 := s_i2.trans t_i3
  have fa0_0c := rd_sub s_b fa0_0
  have fa0_1c := rd_sub s_b fa0_1
  have fi0_0c := rd_sub s_x0 fi0_0
  have fi0_1c := rd_sub s_x0 fi0_1
  have s_i3 : Sub (rest G8 G9) G9 := Sub.rest _ _
  simp (maxSteps := 300000) (disch := omega) only [gs, gs2, gs3, gs4, ↓reduceIte, Nat.reduceEqDiff, Int.reduceToNat, Nat.reduceMul, Nat.reduceAdd, Nat.reduceBEq, isLd, fa0_0c, fa0_1c, fi0_0c, fi0_1c]
  refine impl_HarmonicModulo_ok (o_i0.sub s_i0).t3 (o_i2.sub s_i2).ints (o_i3.sub s_i3).ints (by omega) (by omega) (by omega) fun G10 Ag cg n_g => ?_
  have o_g := n_g.own
  have f_b_g : Off G1 Ag := n_g.off.mono s_b
  have f_w_g : Off (rest G4 G5) Ag := n_g.off.mono s_w
  have f_i0_g : Off (rest G5 G6) Ag := n_g.off.mono s_i0
  have f_x0_g : Off Hx0 Ag := n_g.off.mono s_x0
  have f_i2_g : Off (rest G7 G8) Ag := n_g.off.mono s_i2
  have f_i3_g : Off (rest G8 G9) Ag := n_g.off.mono s_i3
  have f_g_w : Off (rest G9 G10) Aw := Off.rest (own_ne (o_w.sub s_w))
  have f_g_i0 : Off (rest G9 G10) Ai0 := Off.rest (own_ne (o_i0.sub s_i0))
  have f_g_i2 : Off (rest G9 G10) Ai2 := Off.rest (own_ne (o_i2.sub s_i2))
  have f_g_i3 : Off (rest G9 G10) Ai3 := Off.rest (own_ne (o_i3.sub s_i3))
  have t_g := n_g.sub
  have s_b := s_b.trans t_g
  have s_w := s_w.trans t_g
  have s_i0 := s_i0.trans t_g
  have s_x0 := s_x0.trans t_g
  have s_i2 := s_i2.trans t_g
  have s_i3 := s_i3.trans t_g
  have fa0_0c := rd_sub s_b fa0_0
  have fa0_1c := rd_sub s_b fa0_1
  have fi0_0c := rd_sub s_x0 fi0_0
  have fi0_1c := rd_sub s_x0 fi0_1
  have s_g : Sub (rest G9 G10) G10 := Sub.rest _ _
  simp (maxSteps := 300000) (disch := omega) only [gs, gs2, gs3, gs4, ↓reduceIte, Nat.reduceEqDiff, Int.reduceToNat, Nat.reduceMul, Nat.reduceAdd, Nat.reduceBEq, isLd, fa0_0c, fa0_1c, fi0_0c, fi0_1c]
  refine laws_eqInt64S_ok (o_g.sub s_g).ints (o_w.sub s_w).ints (by omega) ?_
  simp (maxSteps := 300000) (disch := omega) only [gs, gs2, gs3, gs4, ↓reduceIte, Nat.reduceEqDiff, Int.reduceToNat, Nat.reduceMul, Nat.reduceAdd, Nat.reduceBEq, isLd, eq_self, fa0_0c, fa0_1c, fi0_0c, fi0_1c]
  refine laws_toGraph_new (N := x0) (h0.sub s_b) (by omega) fun Ae0 G11 n_e0 => ?_
  have o_e0 := n_e0.own
  have t_e0 := n_e0.sub
  have s_b := s_b.trans t_e0
  have s_w := s_w.trans t_e0
  have s_i0 := s_i0.trans t_e0
  have s_x0 := s_x0.trans t_e0
  have s_i2 := s_i2.trans t_e0
  have s_i3 := s_i3.trans t_e0
  have s_g := s_g.trans t_e0
  have fa0_0c := rd_sub s_b fa0_0
  have fa0_1c := rd_sub s_b fa0_1
  have fi0_0c := rd_sub s_x0 fi0_0
  have fi0_1c := rd_sub s_x0 fi0_1
  have s_e0 := Sub.rest G10 G11
  simp (maxSteps := 300000) (disch := omega) only [gs, gs2, gs3, gs4, ↓reduceIte, Nat.reduceEqDiff, Int.reduceToNat, Nat.reduceMul, Nat.reduceAdd, Nat.reduceBEq, isLd, fa0_0c, fa0_1c, fi0_0c, fi0_1c]
  refine laws_eqGraph_ok (N := x0) (M := x0) (o_i0.sub s_i0).t3 (o_e0.sub s_e0).t3 (by omega) fun b hb => ?_
  obtain rfl : b = true := hb.2 rfl
  simp (maxSteps := 300000) (disch := omega) only [gs, gs2, gs3, gs4, ↓reduceIte, Nat.reduceEqDiff, Int.reduceToNat, Nat.reduceMul, Nat.reduceAdd, Nat.reduceBEq, isLd, fa0_0c, fa0_1c, fi0_0c, fi0_1c]
  refine laws_toInt64S_new (N := x2) (h2.sub s_b) (by omega) fun Ae2 G12 n_e2 => ?_
  have o_e2 := n_e2.own
  have t_e2 := n_e2.sub
  have s_b := s_b.trans t_e2
  have s_w := s_w.trans t_e2
  have s_i0 := s_i0.trans t_e2
  have s_x0 := s_x0.trans t_e2
  have s_i2 := s_i2.trans t_e2
  have s_i3 := s_i3.trans t_e2
  have s_g := s_g.trans t_e2
  have s_e0 := s_e0.trans t_e2
  have fa0_0c := rd_sub s_b fa0_0
  have fa0_1c := rd_sub s_b fa0_1
  have fi0_0c := rd_sub s_x0 fi0_0
  have fi0_1c := rd_sub s_x0 fi0_1
  have s_e2 := Sub.rest G11 G12
  simp (maxSteps := 300000) (disch := omega) only [gs, gs2, gs3, gs4, ↓reduceIte, Nat.reduceEqDiff, Int.reduceToNat, Nat.reduceMul, Nat.reduceAdd, Nat.reduceBEq, isLd, fa0_0c, fa0_1c, fi0_0c, fi0_1c]
  refine laws_eqInt64S_ok (o_i2.sub s_i2).ints (o_e2.sub s_e2).ints (by omega) ?_
  simp (maxSteps := 300000) (disch := omega) only [gs, gs2, gs3, gs4, ↓reduceIte, Nat.reduceEqDiff, Int.reduceToNat, Nat.reduceMul, Nat.reduceAdd, Nat.reduceBEq, isLd, eq_self, fa0_0c, fa0_1c, fi0_0c, fi0_1c]
  refine laws_toInt64S_new (N := x3) (h3.sub s_b) (by omega) fun Ae3 G13 n_e3 => ?_
  have o_e3 := n_e3.own
  have t_e3 := n_e3.sub
  have s_b := s_b.trans t_e3
  have s_w := s_w.trans t_e3
  have s_i0 := s_i0.trans t_e3
  have s_x0 := s_x0.trans t_e3
  have s_i2 := s_i2.trans t_e3
  have s_i3 := s_i3.trans t_e3
  have s_g := s_g.trans t_e3
  have s_e0 := s_e0.trans t_e3
  have s_e2 := s_e2.trans t_e3
  have fa0_0c := rd_sub s_b fa0_0
  have fa0_1c := rd_sub s_b fa0_1
  have fi0_0c := rd_sub s_x0 fi0_0
  have fi0_1c := rd_sub s_x0 fi0_1
  have s_e3 := Sub.rest G12 G13
  simp (maxSteps := 300000) (disch := omega) only [gs, gs2, gs3, gs4, ↓reduceIte, Nat.reduceEqDiff, Int.reduceToNat, Nat.reduceMul, Nat.reduceAdd, Nat.reduceBEq, isLd, fa0_0c, fa0_1c, fi0_0c, fi0_1c]
  refine laws_eqInt64S_ok (o_i3.sub s_i3).ints (o_e3.sub s_e3).ints (by omega) ?_
  simp (maxSteps := 300000) (disch := omega) only [gs, gs2, gs3, gs4, ↓reduceIte, Nat.reduceEqDiff, Int.reduceToNat, Nat.reduceMul, Nat.reduceAdd, Nat.reduceBEq, isLd, eq_self, fa0_0c, fa0_1c, fi0_0c, fi0_1c]
  refine laws_markGraph_ok (N := x0) (o_i0.sub s_i0) (by omega) (by omega) fun G14 k0 k0a k0b u0 => ?_
  have s_b := u0.sub s_b f_b_i0
  have s_w := u0.sub s_w f_w_i0
  have s_x0 := u0.sub s_x0 f_x0_i0
  have s_i2 := u0.sub s_i2 f_i2_i0
  have s_i3 := u0.sub s_i3 f_i3_i0
  have s_g := u0.sub s_g f_g_i0
  have fa0_0c := rd_sub s_b fa0_0
  have fa0_1c := rd_sub s_b fa0_1
  have fi0_0c := rd_sub s_x0 fi0_0
  have fi0_1c := rd_sub s_x0 fi0_1
  simp (maxSteps := 300000) (disch := omega) only [gs, gs2, gs3, gs4, ↓reduceIte, Nat.reduceEqDiff, Int.reduceToNat, Nat.reduceMul, Nat.reduceAdd, Nat.reduceBEq, isLd, fa0_0c, fa0_1c, fi0_0c, fi0_1c]
  refine laws_markInt64S_ok (o_i2.sub s_i2) (by omega) (by omega) fun G15 u2 _ => ?_
  have s_b := u2.sub s_b f_b_i2
  have s_w := u2.sub s_w f_w_i2
  have s_x0 := u2.sub s_x0 f_x0_i2
  have s_i3 := u2.sub s_i3 f_i3_i2
  have s_g := u2.sub s_g f_g_i2
  have fa0_0c := rd_sub s_b fa0_0
  have fa0_1c := rd_sub s_b fa0_1
  have fi0_0c := rd_sub s_x0 fi0_0
  have fi0_1c := rd_sub s_x0 fi0_1
  simp (maxSteps := 300000) (disch := omega) only [gs, gs2, gs3, gs4, ↓reduceIte, Nat.reduceEqDiff, Int.reduceToNat, Nat.reduceMul, Nat.reduceAdd, Nat.reduceBEq, isLd, fa0_0c, fa0_1c, fi0_0c, fi0_1c]
  refine laws_markInt64S_ok (o_i3.sub s_i3) (by omega) (by omega) fun G16 u3 _ => ?_
  have s_b := u3.sub s_b f_b_i3
  have s_w := u3.sub s_w f_w_i3
  have s_x0 := u3.sub s_x0 f_x0_i3
  have s_g := u3.sub s_g f_g_i3
  have fa0_0c := rd_sub s_b fa0_0
  have fa0_1c := rd_sub s_b fa0_1
  have fi0_0c := rd_sub s_x0 fi0_0
  have fi0_1c := rd_sub s_x0 fi0_1
  simp (maxSteps := 300000) (disch := omega) only [gs, gs2, gs3, gs4, ↓reduceIte, Nat.reduceEqDiff, Int.reduceToNat, Nat.reduceMul, Nat.reduceAdd, Nat.reduceBEq, isLd, fa0_0c, fa0_1c, fi0_0c, fi0_1c]
  simp (maxSteps := 300000) (disch := omega) only [gs, gs2, gs3, gs4, ↓reduceIte, Nat.reduceEqDiff, Int.reduceToNat, Nat.reduceMul, Nat.reduceAdd, Nat.reduceBEq, isLd, show ∀ z : Int, 0 ≤ z → (z < 0) = False from fun z hz => eq_false (by omega), fa0_0c, fa0_1c, fi0_0c, fi0_1c]
  refine laws_eqInt64S_ok (o_g.sub s_g).ints (o_w.sub s_w).ints (by omega) ?_
  simp (maxSteps := 300000) (disch := omega) only [gs, gs2, gs3, gs4, ↓reduceIte, Nat.reduceEqDiff, Int.reduceToNat, Nat.reduceMul, Nat.reduceAdd, Nat.reduceBEq, isLd, eq_self, fa0_0c, fa0_1c, fi0_0c, fi0_1c]
  refine laws_markInt64S_ok (o_g.sub s_g) (by omega) (by omega) fun G17 ug om => ?_
  have s_b := ug.sub s_b f_b_g
  have s_w := ug.sub s_w f_w_g
  have s_x0 := ug.sub s_x0 f_x0_g
  have fa0_0c := rd_sub s_b fa0_0
  have fa0_1c := rd_sub s_b fa0_1
  have fi0_0c := rd_sub s_x0 fi0_0
  have fi0_1c := rd_sub s_x0 fi0_1
  have s_m := Sub.refl G17
  simp (maxSteps := 300000) (disch := omega) only [gs, gs2, gs3, gs4, ↓reduceIte, Nat.reduceEqDiff, Int.reduceToNat, Nat.reduceMul, Nat.reduceAdd, Nat.reduceBEq, isLd, fa0_0c, fa0_1c, fi0_0c, fi0_1c]
  refine laws_heldInt64S_ok (om.sub s_m).mk (by omega) (by omega) ?_
  simp (maxSteps := 300000) (disch := omega) only [gs, gs2, gs3, gs4, ↓reduceIte, Nat.reduceEqDiff, Int.reduceToNat, Nat.reduceMul, Nat.reduceAdd, Nat.reduceBEq, isLd, eq_self, show (1 + ((harV x0 x1 x2 x3).1.length : Int) < 0) = False from eq_false (by omega), fa0_0c, fa0_1c, fi0_0c, fi0_1c]
  refine laws_toGraph_new (N := x0) (h0.sub s_b) (by omega) fun Ah0 G18 n_h0 => ?_
  have o_h0 := n_h0.own
  have t_h0 := n_h0.sub
  have s_b := s_b.trans t_h0
  have s_w := s_w.trans t_h0
  have s_x0 := s_x0.trans t_h0
  have s_m := s_m.trans t_h0
  have fa0_0c := rd_sub s_b fa0_0
  have fa0_1c := rd_sub s_b fa0_1
  have fi0_0c := rd_sub s_x0 fi0_0
  have fi0_1c := rd_sub s_x0 fi0_1
  have s_h0 := Sub.rest G17 G18
  simp (maxSteps := 300000) (disch := omega) only [gs, gs2, gs3, gs4, ↓reduceIte, Nat.reduceEqDiff, Int.reduceToNat, Nat.reduceMul, Nat.reduceAdd, Nat.reduceBEq, isLd, fa0_0c, fa0_1c, fi0_0c, fi0_1c]
  refine laws_toInt64S_new (N := x2) (h2.sub s_b) (by omega) fun Ah2 G19 n_h2 => ?_
  have o_h2 := n_h2.own
  have t_h2 := n_h2.sub
  have s_b := s_b.trans t_h2
  have s_w := s_w.trans t_h2
  have s_x0 := s_x0.trans t_h2
  have s_m := s_m.trans t_h2
  have s_h0 := s_h0.trans t_h2
  have fa0_0c := rd_sub s_b fa0_0
  have fa0_1c := rd_sub s_b fa0_1
  have fi0_0c := rd_sub s_x0 fi0_0
  have fi0_1c := rd_sub s_x0 fi0_1
  have s_h2 := Sub.rest G18 G19
  simp (maxSteps := 300000) (disch := omega) only [gs, gs2, gs3, gs4, ↓reduceIte, Nat.reduceEqDiff, Int.reduceToNat, Nat.reduceMul, Nat.reduceAdd, Nat.reduceBEq, isLd, fa0_0c, fa0_1c, fi0_0c, fi0_1c]
  refine laws_toInt64S_new (N := x3) (h3.sub s_b) (by omega) fun Ah3 G20 n_h3 => ?_
  have o_h3 := n_h3.own
  have t_h3 := n_h3.sub
  have s_b := s_b.trans t_h3
  have s_w := s_w.trans t_h3
  have s_x0 := s_x0.trans t_h3
  have s_m := s_m.trans t_h3
  have s_h0 := s_h0.trans t_h3
  have s_h2 := s_h2.trans t_h3
  have fa0_0c := rd_sub s_b fa0_0
  have fa0_1c := rd_sub s_b fa0_1
  have fi0_0c := rd_sub s_x0 fi0_0
  have fi0_1c := rd_sub s_x0 fi0_1
  have s_h3 := Sub.rest G19 G20
  simp (maxSteps := 300000) (disch := omega) only [gs, gs2, gs3, gs4, ↓reduceIte, Nat.reduceEqDiff, Int.reduceToNat, Nat.reduceMul, Nat.reduceAdd, Nat.reduceBEq, isLd, fa0_0c, fa0_1c, fi0_0c, fi0_1c]
  refine impl_HarmonicModulo_ok (o_h0.sub s_h0).t3 (o_h2.sub s_h2).ints (o_h3.sub s_h3).ints (by omega) (by omega) (by omega) fun G21 Ah ch n_h => ?_
  have o_h := n_h.own
  have t_h := n_h.sub
  have s_b := s_b.trans t_h
  have s_w := s_w.trans t_h
  have s_x0 := s_x0.trans t_h
  have s_m := s_m.trans t_h
  have s_h0 := s_h0.trans t_h
  have s_h2 := s_h2.trans t_h
  have s_h3 := s_h3.trans t_h
  have fa0_0c := rd_sub s_b fa0_0
  have fa0_1c := rd_sub s_b fa0_1
  have fi0_0c := rd_sub s_x0 fi0_0
  have fi0_1c := rd_sub s_x0 fi0_1
  have s_h := Sub.rest G20 G21
  simp (maxSteps := 300000) (disch := omega) only [gs, gs2, gs3, gs4, ↓reduceIte, Nat.reduceEqDiff, Int.reduceToNat, Nat.reduceMul, Nat.reduceAdd, Nat.reduceBEq, isLd, fa0_0c, fa0_1c, fi0_0c, fi0_1c]
  refine laws_eqInt64S_ok (o_h.sub s_h).ints (o_w.sub s_w).ints (by omega) ?_
  simp (maxSteps := 300000) (disch := omega) only [gs, gs2, gs3, gs4, ↓reduceIte, Nat.reduceEqDiff, Int.reduceToNat, Nat.reduceMul, Nat.reduceAdd, Nat.reduceBEq, isLd, eq_self, fa0_0c, fa0_1c, fi0_0c, fi0_1c]
  refine laws_heldInt64S_ok (om.sub s_m).mk (by omega) (by omega) ?_
  simp (maxSteps := 300000) (disch := omega) only [gs, gs2, gs3, gs4, ↓reduceIte, Nat.reduceEqDiff, Int.reduceToNat, Nat.reduceMul, Nat.reduceAdd, Nat.reduceBEq, isLd, eq_self, show (1 + ((harV x0 x1 x2 x3).1.length : Int) < 0) = False from eq_false (by omega), fa0_0c, fa0_1c, fi0_0c, fi0_1c]

end Go.Proofs.Ytmlkgpoakkgjbaa.Gh
