/- What the functions that the law FnLaplacians reaches return, and the law; it stands under no condition. -/
import Derived.Test.YtmlkgpoakkgjbaaYFnLaplaciansc
namespace Go.Proofs.Ytmlkgpoakkgjbaa.Gh
open Go Go.RowKit Go.Proofs
set_option linter.unusedVariables false
set_option linter.unusedSimpArgs false
set_option maxHeartbeats 4000000

theorem b10Zero_ok {G : GH} {A : Option Addr} {c : Nat} {xs : List Int} (h : IntS G A c xs) (hl : xs.length < 2 ^ 40) {K : Value → GH → Prop}
    (hk : ∀ b : Bool, (b = true ↔ ∀ i, i < xs.length → xs.getD i 0 = 0) → K (.bool b) G) : GC Try.prog 61 [.slice A xs.length c] G K := by
  refine c_laws_b10Zero_i (by simp) ?_
  have hsn := h.sn
  have r := h.rd
  simp (maxSteps := 300000) (disch := omega) only [gs, gs2, gs3, ↓reduceIte, Nat.reduceEqDiff, Nat.mul_one, Nat.add_zero, Nat.zero_add, Nat.zero_mul, Int.toNat_natCast, Int.reduceToNat, Nat.reduceMul, Nat.reduceAdd, decide_true, decide_false, Bool.not_true, Bool.not_false, true_and, and_true, List.map_cons, List.map_nil, List.nil_append, List.cons_append, List.append_nil, Option.map_some, Option.bind_some, List.getElem?_cons_zero, List.getElem?_cons_succ, Bool.false_eq_true, not_true_eq_false, not_false_eq_true, List.contains_cons, List.contains_nil, Nat.reduceBEq, Bool.true_or, Bool.false_or, Bool.or_true, List.set_cons_zero, List.set_cons_succ, List.length_cons, List.length_nil, isLd, Bool.true_and, Bool.false_and, Bool.and_true, Bool.and_false]
  refine gLoop_intro (fun m T G' => ∃ k : Nat, T 0 = .slice A xs.length c ∧ T 3 = .int .i64 k ∧ m + k = xs.length ∧ k ≤ xs.length ∧ G = G' ∧ ∀ i, i < k → xs.getD i 0 = 0)
    xs.length ⟨0, by simp (maxSteps := 300000) (disch := omega) only [gs, gs2, gs3, ↓reduceIte, Nat.reduceEqDiff, Nat.mul_one, Nat.add_zero, Nat.zero_add, Nat.zero_mul, Int.toNat_natCast, Int.reduceToNat, Nat.reduceMul, Nat.reduceAdd, decide_true, decide_false, Bool.not_true, Bool.not_false, true_and, and_true, List.map_cons, List.map_nil, List.nil_append, List.cons_append, List.append_nil, Option.map_some, Option.bind_some, List.getElem?_cons_zero, List.getElem?_cons_succ, Bool.false_eq_true, not_true_eq_false, not_false_eq_true, List.contains_cons, List.contains_nil, Nat.reduceBEq, Bool.true_or, Bool.false_or, Bool.or_true, List.set_cons_zero, List.set_cons_succ, List.length_cons, List.length_nil, isLd, Bool.true_and, Bool.false_and, Bool.and_true, Bool.and_false], by simp (maxSteps := 300000) (disch := omega) only [gs, gs2, gs3, ↓reduceIte, Nat.reduceEqDiff, Nat.mul_one, Nat.add_zero, Nat.zero_add, Nat.zero_mul, Int.toNat_natCast, Int.reduceToNat, Nat.reduceMul, Nat.reduceAdd, decide_true, decide_false, Bool.not_true, Bool.not_false, true_and, and_true, List.map_cons, List.map_nil, List.nil_append, List.cons_append, List.append_nil, Option.map_some, Option.bind_some, List.getElem?_cons_zero, List.getElem?_cons_succ, Bool.false_eq_true, not_true_eq_false, not_false_eq_true, List.contains_cons, List.contains_nil, Nat.reduceBEq, Bool.true_or, Bool.false_or, Bool.or_true, List.set_cons_zero, List.set_cons_succ, List.length_cons, List.length_nil, isLd, Bool.true_and, Bool.false_and, Bool.and_true, Bool.and_false] <;> rfl, by omega, by omega, rfl, fun i hi => by omega⟩ ?_
  rintro m T G' ⟨k, e0, e3, hm, hkl, rfl, hall⟩
  simp (maxSteps := 300000) (disch := omega) only [gs, gs2, gs3, ↓reduceIte, Nat.reduceEqDiff, Nat.mul_one, Nat.add_zero, Nat.zero_add, Nat.zero_mul, Int.toNat_natCast, Int.reduceToNat, Nat.reduceMul, Nat.reduceAdd, decide_true, decide_false, Bool.not_true, Bool.not_false, true_and, and_true, List.map_cons, List.map_nil, List.nil_append, List.cons_append, List.append_nil, Option.map_some, Option.bind_some, List.getElem?_cons_zero, List.getElem?_cons_succ, Bool.false_eq_true, not_true_eq_false, not_false_eq_true, List.contains_cons, List.contains_nil, Nat.reduceBEq, Bool.true_or, Bool.false_or, Bool.or_true, List.set_cons_zero, List.set_cons_succ, List.length_cons, List.length_nil, isLd, Bool.true_and, Bool.false_and, Bool.and_true, Bool.and_false, e0, e3]
  by_cases hk2 : (k : Int) < xs.length
  · simp (maxSteps := 300000) (disch := omega) only [gs, gs2, gs3, ↓reduceIte, Nat.reduceEqDiff, Nat.mul_one, Nat.add_zero, Nat.zero_add, Nat.zero_mul, Int.toNat_natCast, Int.reduceToNat, Nat.reduceMul, Nat.reduceAdd, decide_true, decide_false, Bool.not_true, Bool.not_false, true_and, and_true, List.map_cons, List.map_nil, List.nil_append, List.cons_append, List.append_nil, Option.map_some, Option.bind_some, List.getElem?_cons_zero, List.getElem?_cons_succ, Bool.false_eq_true, not_true_eq_false, not_false_eq_true, List.contains_cons, List.contains_nil, Nat.reduceBEq, Bool.true_or, Bool.false_or, Bool.or_true, List.set_cons_zero, List.set_cons_succ, List.length_cons, List.length_nil, isLd, Bool.true_and, Bool.false_and, Bool.and_true, Bool.and_false, e0, e3, hk2, r]
    by_cases hv : xs.getD k 0 = 0
    · simp (maxSteps := 300000) (disch := omega) only [gs, gs2, gs3, ↓reduceIte, Nat.reduceEqDiff, Nat.mul_one, Nat.add_zero, Nat.zero_add, Nat.zero_mul, Int.toNat_natCast, Int.reduceToNat, Nat.reduceMul, Nat.reduceAdd, decide_true, decide_false, Bool.not_true, Bool.not_false, true_and, and_true, List.map_cons, List.map_nil, List.nil_append, List.cons_append, List.append_nil, Option.map_some, Option.bind_some, List.getElem?_cons_zero, List.getElem?_cons_succ, Bool.false_eq_true, not_true_eq_false, not_false_eq_true, List.contains_cons, List.contains_nil, Nat.reduceBEq, Bool.true_or, Bool.false_or, Bool.or_true, List.set_cons_zero, List.set_cons_succ, List.length_cons, List.length_nil, isLd, Bool.true_and, Bool.false_and, Bool.and_true, Bool.and_false, eq_true hv, e0, e3]
      exact ⟨m - 1, by omega, _, Sub.refl _, k + 1, rfl, by omega, by omega, rfl, fun i hi => by
        by_cases hik : i = k
        · subst hik; exact hv
        · exact hall i (by omega)⟩
    · simp (maxSteps := 300000) (disch := omega) only [gs, gs2, gs3, ↓reduceIte, Nat.reduceEqDiff, Nat.mul_one, Nat.add_zero, Nat.zero_add, Nat.zero_mul, Int.toNat_natCast, Int.reduceToNat, Nat.reduceMul, Nat.reduceAdd, decide_true, decide_false, Bool.not_true, Bool.not_false, true_and, and_true, List.map_cons, List.map_nil, List.nil_append, List.cons_append, List.append_nil, Option.map_some, Option.bind_some, List.getElem?_cons_zero, List.getElem?_cons_succ, Bool.false_eq_true, not_true_eq_false, not_false_eq_true, List.contains_cons, List.contains_nil, Nat.reduceBEq, Bool.true_or, Bool.false_or, Bool.or_true, List.set_cons_zero, List.set_cons_succ, List.length_cons, List.length_nil, isLd, Bool.true_and, Bool.false_and, Bool.and_true, Bool.and_false, eq_false hv, e0, e3]
      exact hk false ⟨fun x => by simp at x, fun x => absurd (x k (by omega)) hv⟩
  · simp (maxSteps := 300000) (disch := omega) only [gs, gs2, gs3, ↓reduceIte, Nat.reduceEqDiff, Nat.mul_one, Nat.add_zero, Nat.zero_add, Nat.zero_mul, Int.toNat_natCast, Int.reduceToNat, Nat.reduceMul, Nat.reduceAdd, decide_true, decide_false, Bool.not_true, Bool.not_false, true_and, and_true, List.map_cons, List.map_nil, List.nil_append, List.cons_append, List.append_nil, Option.map_some, Option.bind_some, List.getElem?_cons_zero, List.getElem?_cons_succ, Bool.false_eq_true, not_true_eq_false, not_false_eq_true, List.contains_cons, List.contains_nil, Nat.reduceBEq, Bool.true_or, Bool.false_or, Bool.or_true, List.set_cons_zero, List.set_cons_succ, List.length_cons, List.length_nil, isLd, Bool.true_and, Bool.false_and, Bool.and_true, Bool.and_false, e0, e3, hk2]
    exact hk true ⟨fun _ i hi => hall i (by omega), fun _ => rfl⟩
/-- bytes that came in. -/
def BytesV (G : GH) (v : Value) (L : Nat) : Prop := ∃ A c, v = .slice A L c ∧ BytS G A L c ∧ L ≤ 2 ^ 63 - 1
theorem open_bytes' {H : Type} {enc : TypeId × Value → H} {P : Program} {W : World} {t e : TypeId} (ht : P.underlying t = some (.slice e)) (he : P.underlying e = some (.int .u8)) (hs : P.cellsOf e = 1) {v : Value} {d : DataW H} {ps : List MemPlace} {r : Reach} {base : Nat}
    (hv : Value.okWide P W r base t v) (h : DataW.Trod enc P W 0 (fun _ => true) true t v d ps) : ∃ L, BytesV (G0 W) v L := by
  obtain ⟨A, n, c, rfl⟩ := Go.WideShapes.okWide_slice ht hv
  obtain ⟨fuel, hf⟩ := h
  obtain ⟨hc, hc2, hx⟩ := trod_sl ht hf
  rw [hs] at hx
  refine ⟨n, A, c, rfl, ⟨hc, fun i hi => ?_⟩, by omega⟩
  obtain ⟨cs, f', x', h1, h2, h3⟩ := hx i hi
  obtain ⟨z, rfl, _, hwf⟩ := DataW.trod_int he h3
  simp only [Lit.wf, Bool.and_eq_true, decide_eq_true_eq, IntKind.min, IntKind.max, IntKind.signed, IntKind.bits] at hwf
  have hb : 0 ≤ z ∧ z ≤ 255 := by simpa using hwf
  exact ⟨z, hb.1, hb.2, by simpa using h2 0 _ rfl⟩
theorem parts_get (n : Nat) (es : List T3) {v : Int} (h0 : 0 ≤ v) (h : v < n) : (parts n es).getD v.toNat 0 = cR es n v := by
  have : v.toNat < n := by omega
  unfold parts
  simp [List.getD, this, Int.toNat_of_nonneg h0]
theorem lapl_half {G : GH} {A1 : Option Addr} {x1 c1 : Nat} {T : Nat → Value} (hB : BytS G A1 x1 c1) : GC Try.prog 62 [.slice A1 x1 c1] G
    (HK Try.prog [oo 13 (.al [.int .i64 0, .slice none 0 0]), on (.st 2 (tt 13) (tt 95))]
      (SeqK (gW Try.prog (.seq (.reg c_laws_FnLaplacians_20) (.seq (.reg c_laws_FnLaplacians_21) (.seq (.reg c_laws_FnLaplacians_22) (.seq (.seq (.reg c_laws_FnLaplacians_23) (.cond (tt 112) (.seq (.reg c_laws_FnLaplacians_24) .ret) .skip)) (.seq (.reg c_laws_FnLaplacians_25) (.seq (.seq (.reg c_laws_FnLaplacians_26) (.cond (tt 154) (.seq (.reg c_laws_FnLaplacians_27) .ret) .skip)) (.seq (.seq (.reg c_laws_FnLaplacians_28) (.blk 2 (.loop c_laws_FnLaplacians_l1))) (.seq (.reg c_laws_FnLaplacians_34) .ret)))))))))
        (RetK [RV.t 4] fun v x => v = Value.bool true) Ex.nrm) T (some 95)) := by
  refine spec_DrawComponentsOf_ok hB fun G4 N Ap cp hA hO _ s4 => ?_
  have hT := hO.t3
  have hnl := hA.len
  clear hO s4 hB
  unfold graV graC
  simp (maxSteps := 300000) (disch := omega) only [gs, gs2, gs3, ↓reduceIte, Nat.reduceEqDiff, Nat.mul_one, Nat.add_zero, Nat.zero_add, Nat.zero_mul, Int.toNat_natCast, Int.reduceToNat, Nat.reduceMul, Nat.reduceAdd, decide_true, decide_false, Bool.not_true, Bool.not_false, true_and, and_true, List.map_cons, List.map_nil, List.nil_append, List.cons_append, List.append_nil, Option.map_some, Option.bind_some, List.getElem?_cons_zero, List.getElem?_cons_succ, Bool.false_eq_true, not_true_eq_false, not_false_eq_true, List.contains_cons, List.contains_nil, Nat.reduceBEq, Bool.true_or, Bool.false_or, Bool.or_true, List.set_cons_zero, List.set_cons_succ, List.length_cons, List.length_nil, isLd, Bool.true_and, Bool.false_and, Bool.and_true, Bool.and_false]
  intro b13 hb13
  simp (maxSteps := 300000) (disch := omega) only [gs, gs2, gs3, ↓reduceIte, Nat.reduceEqDiff, Nat.mul_one, Nat.add_zero, Nat.zero_add, Nat.zero_mul, Int.toNat_natCast, Int.reduceToNat, Nat.reduceMul, Nat.reduceAdd, decide_true, decide_false, Bool.not_true, Bool.not_false, true_and, and_true, List.map_cons, List.map_nil, List.nil_append, List.cons_append, List.append_nil, Option.map_some, Option.bind_some, List.getElem?_cons_zero, List.getElem?_cons_succ, Bool.false_eq_true, not_true_eq_false, not_false_eq_true, List.contains_cons, List.contains_nil, Nat.reduceBEq, Bool.true_or, Bool.false_or, Bool.or_true, List.set_cons_zero, List.set_cons_succ, List.length_cons, List.length_nil, isLd, Bool.true_and, Bool.false_and, Bool.and_true, Bool.and_false]
  refine st_fresh (vs := graC N Ap cp) rfl rfl rfl (by intro v hv; simp [graC] at hv; rcases hv with rfl | rfl <;> rfl) ?_
  have s5 := Sub.put hb13 ⟨graC N Ap cp, true⟩
  have k0 : rd (put G4 b13 ⟨graC N Ap cp, true⟩) (some ⟨b13, 0, none⟩) = some (.int .i64 N.n) := rd_box _ _ _ 0 _ rfl
  have k1 : rd (put G4 b13 ⟨graC N Ap cp, true⟩) (some ⟨b13, 1, none⟩) = some (.slice Ap N.edges.length cp) := rd_box _ _ _ 1 _ rfl
  have hT := hT.sub s5
  revert k0 k1 hT
  generalize put G4 b13 ⟨graC N Ap cp, true⟩ = H
  intro k0 k1 hT
  clear s5 hb13
  simp (maxSteps := 300000) (disch := omega) only [gs, gs2, gs3, ↓reduceIte, Nat.reduceEqDiff, Nat.mul_one, Nat.add_zero, Nat.zero_add, Nat.zero_mul, Int.toNat_natCast, Int.reduceToNat, Nat.reduceMul, Nat.reduceAdd, decide_true, decide_false, Bool.not_true, Bool.not_false, true_and, and_true, List.map_cons, List.map_nil, List.nil_append, List.cons_append, List.append_nil, Option.map_some, Option.bind_some, List.getElem?_cons_zero, List.getElem?_cons_succ, Bool.false_eq_true, not_true_eq_false, not_false_eq_true, List.contains_cons, List.contains_nil, Nat.reduceBEq, Bool.true_or, Bool.false_or, Bool.or_true, List.set_cons_zero, List.set_cons_succ, List.length_cons, List.length_nil, isLd, Bool.true_and, Bool.false_and, Bool.and_true, Bool.and_false, k0, k1]
  refine impl_ComponentsOf_ok (N := N) hT (by omega) fun G5 Ac cc hN5 => ?_
  have s5 := hN5.sub
  have q0 := rd_sub s5 k0
  have q1 := rd_sub s5 k1
  simp (maxSteps := 300000) (disch := omega) only [gs, gs2, gs3, ↓reduceIte, Nat.reduceEqDiff, Nat.mul_one, Nat.add_zero, Nat.zero_add, Nat.zero_mul, Int.toNat_natCast, Int.reduceToNat, Nat.reduceMul, Nat.reduceAdd, decide_true, decide_false, Bool.not_true, Bool.not_false, true_and, and_true, List.map_cons, List.map_nil, List.nil_append, List.cons_append, List.append_nil, Option.map_some, Option.bind_some, List.getElem?_cons_zero, List.getElem?_cons_succ, Bool.false_eq_true, not_true_eq_false, not_false_eq_true, List.contains_cons, List.contains_nil, Nat.reduceBEq, Bool.true_or, Bool.false_or, Bool.or_true, List.set_cons_zero, List.set_cons_succ, List.length_cons, List.length_nil, isLd, Bool.true_and, Bool.false_and, Bool.and_true, Bool.and_false, q0, q1]
  by_cases hn : GraOk N
  rotate_left
  · have ec : compV N = ([], 1) := if_neg hn
    rw [ec] at hN5 ⊢
    refine impl_LaplacianOf_ok (N := N) (hT.sub s5) (by omega) (fun _ => ?_) (fun h => absurd h hn)
    simp (maxSteps := 300000) (disch := omega) only [gs, gs2, gs3, ↓reduceIte, Nat.reduceEqDiff, Nat.mul_one, Nat.add_zero, Nat.zero_add, Nat.zero_mul, Int.toNat_natCast, Int.reduceToNat, Nat.reduceMul, Nat.reduceAdd, decide_true, decide_false, Bool.not_true, Bool.not_false, true_and, and_true, List.map_cons, List.map_nil, List.nil_append, List.cons_append, List.append_nil, Option.map_some, Option.bind_some, List.getElem?_cons_zero, List.getElem?_cons_succ, Bool.false_eq_true, not_true_eq_false, not_false_eq_true, List.contains_cons, List.contains_nil, Nat.reduceBEq, Bool.true_or, Bool.false_or, Bool.or_true, List.set_cons_zero, List.set_cons_succ, List.length_cons, List.length_nil, isLd, Bool.true_and, Bool.false_and, Bool.and_true, Bool.and_false, q0, q1]
    refine impl_DegreesOf_ok (N := N) (hT.sub s5) (by omega) fun G6 Ad cd hN6 => ?_
    rw [show degV N = ([], 1) from if_neg hn]
    simp (maxSteps := 300000) (disch := omega) only [gs, gs2, gs3, ↓reduceIte, Nat.reduceEqDiff, Nat.mul_one, Nat.add_zero, Nat.zero_add, Nat.zero_mul, Int.toNat_natCast, Int.reduceToNat, Nat.reduceMul, Nat.reduceAdd, decide_true, decide_false, Bool.not_true, Bool.not_false, true_and, and_true, List.map_cons, List.map_nil, List.nil_append, List.cons_append, List.append_nil, Option.map_some, Option.bind_some, List.getElem?_cons_zero, List.getElem?_cons_succ, Bool.false_eq_true, not_true_eq_false, not_false_eq_true, List.contains_cons, List.contains_nil, Nat.reduceBEq, Bool.true_or, Bool.false_or, Bool.or_true, List.set_cons_zero, List.set_cons_succ, List.length_cons, List.length_nil, isLd, Bool.true_and, Bool.false_and, Bool.and_true, Bool.and_false, show ((1 : Int) = 0) = False from eq_false (by decide), eq_true (show (1 : Int) = 1 from rfl)]
  have hn1 := hn.1
  have ec : compV N = (parts N.n.toNat N.edges, 0) := if_pos hn
  rw [ec] at hN5 ⊢
  refine impl_LaplacianOf_ok (N := N) (hT.sub s5) (by omega) (fun h => absurd hn h) (fun _ G6 bO Bf hM => ?_)
  have s6 := s5.trans hM.sub
  have q0 := rd_sub s6 k0
  have q1 := rd_sub s6 k1
  simp (maxSteps := 300000) (disch := omega) only [gs, gs2, gs3, ↓reduceIte, Nat.reduceEqDiff, Nat.mul_one, Nat.add_zero, Nat.zero_add, Nat.zero_mul, Int.toNat_natCast, Int.reduceToNat, Nat.reduceMul, Nat.reduceAdd, decide_true, decide_false, Bool.not_true, Bool.not_false, true_and, and_true, List.map_cons, List.map_nil, List.nil_append, List.cons_append, List.append_nil, Option.map_some, Option.bind_some, List.getElem?_cons_zero, List.getElem?_cons_succ, Bool.false_eq_true, not_true_eq_false, not_false_eq_true, List.contains_cons, List.contains_nil, Nat.reduceBEq, Bool.true_or, Bool.false_or, Bool.or_true, List.set_cons_zero, List.set_cons_succ, List.length_cons, List.length_nil, isLd, Bool.true_and, Bool.false_and, Bool.and_true, Bool.and_false, q0, q1]
  refine impl_DegreesOf_ok (N := N) (hT.sub s6) (by omega) fun G7 Ad cd hN7 => ?_
  have ed : degV N = (mapR (fun v => lapK N.edges N.edges.length v v) N.n.toNat, 0) := if_pos hn
  rw [ed] at hN7 ⊢
  have s7 := s6.trans hN7.sub
  have q0 := rd_sub s7 k0
  have q1 := rd_sub s7 k1
  have hP : IntS G7 Ac cc (parts N.n.toNat N.edges) := (hN5.ints.sub hM.sub).sub hN7.sub
  have hpl := parts_len N.n.toNat N.edges
  simp (maxSteps := 300000) (disch := omega) only [gs, gs2, gs3, ↓reduceIte, Nat.reduceEqDiff, Nat.mul_one, Nat.add_zero, Nat.zero_add, Nat.zero_mul, Int.toNat_natCast, Int.reduceToNat, Nat.reduceMul, Nat.reduceAdd, decide_true, decide_false, Bool.not_true, Bool.not_false, true_and, and_true, List.map_cons, List.map_nil, List.nil_append, List.cons_append, List.append_nil, Option.map_some, Option.bind_some, List.getElem?_cons_zero, List.getElem?_cons_succ, Bool.false_eq_true, not_true_eq_false, not_false_eq_true, List.contains_cons, List.contains_nil, Nat.reduceBEq, Bool.true_or, Bool.false_or, Bool.or_true, List.set_cons_zero, List.set_cons_succ, List.length_cons, List.length_nil, isLd, Bool.true_and, Bool.false_and, Bool.and_true, Bool.and_false, q0, q1]
  refine impl_EnergyOf_ok (N := N) (hT.sub s7) hP (by omega) (by omega) ?_
  have hx : VecOk N (parts N.n.toNat N.edges) := by
    refine ⟨by rw [hpl]; omega, fun i hi => ?_⟩
    rw [hpl] at hi
    have := parts_get N.n.toNat N.edges (v := (i : Int)) (by omega) (by omega)
    rw [Int.toNat_natCast] at this
    rw [this]
    have := cR_bd N.edges (n := N.n.toNat) (fun i hi => by have := hn.2.1 i hi; unfold okEdge at this; omega) N.n.toNat 0 (by omega) i (by omega) (by omega)
    have h : 0 ≤ cR N.edges N.n.toNat i ∧ cR N.edges N.n.toNat i < N.n.toNat := this
    omega
  have hen : energyV N (parts N.n.toNat N.edges) = (0, 0) := by
    unfold energyV
    rw [if_neg (by simp [askC_zero.2 ⟨hn, hx⟩]), en_parts hn _ (fun v h0 h1 => parts_get _ _ h0 (by omega)) _ (Nat.le_refl _)]
  unfold pairV
  rw [hen]
  have hml := mapR_len (fun v => lapK N.edges N.edges.length v v) N.n.toNat
  simp (maxSteps := 300000) (disch := omega) only [gs, gs2, gs3, ↓reduceIte, Nat.reduceEqDiff, Nat.mul_one, Nat.add_zero, Nat.zero_add, Nat.zero_mul, Int.toNat_natCast, Int.reduceToNat, Nat.reduceMul, Nat.reduceAdd, decide_true, decide_false, Bool.not_true, Bool.not_false, true_and, and_true, List.map_cons, List.map_nil, List.nil_append, List.cons_append, List.append_nil, Option.map_some, Option.bind_some, List.getElem?_cons_zero, List.getElem?_cons_succ, Bool.false_eq_true, not_true_eq_false, not_false_eq_true, List.contains_cons, List.contains_nil, Nat.reduceBEq, Bool.true_or, Bool.false_or, Bool.or_true, List.set_cons_zero, List.set_cons_succ, List.length_cons, List.length_nil, isLd, Bool.true_and, Bool.false_and, Bool.and_true, Bool.and_false, q0, q1, show ((N.n.toNat : Int) = ((mapR (fun v => lapK N.edges N.edges.length v v) N.n.toNat).length : Int)) = True from eq_true (by omega), show ((N.n.toNat : Int) = N.n) = True from eq_true (by omega)]
  have hDg : IntS G7 Ad cd (mapR (fun v => lapK N.edges N.edges.length v v) N.n.toNat) := hN7.ints
  have hrs := fun i : Int => lap_row hn i N.edges.length (Nat.le_refl _)
  have hlb : ∀ i j, -216 ≤ lapK N.edges N.edges.length i j ∧ lapK N.edges N.edges.length i j ≤ 216 := fun i j => by
    have := lapK_bd hn.okE (fun i hi => by have := hn.2.1 i hi; unfold okEdge at this; omega) i j _ (Nat.le_refl _)
    have := hn.2.2.2
    omega
  have s67 := hN7.sub
  generalize lapK N.edges N.edges.length = Lp at *
  refine gLoop_intro (fun m T G' => ∃ k : Nat, T 16 = .slice (some ⟨bO, 0, none⟩) N.n.toNat N.n.toNat ∧ T 18 = .slice Ad (mapR (fun v => Lp v v) N.n.toNat).length cd ∧ T 22 = .int .i64 k ∧ m + k = N.n.toNat ∧ k ≤ N.n.toNat ∧ G7 = G')
    N.n.toNat ⟨0, by simp (maxSteps := 300000) (disch := omega) only [gs, gs2, gs3, ↓reduceIte, Nat.reduceEqDiff, Nat.mul_one, Nat.add_zero, Nat.zero_add, Nat.zero_mul, Int.toNat_natCast, Int.reduceToNat, Nat.reduceMul, Nat.reduceAdd, decide_true, decide_false, Bool.not_true, Bool.not_false, true_and, and_true, List.map_cons, List.map_nil, List.nil_append, List.cons_append, List.append_nil, Option.map_some, Option.bind_some, List.getElem?_cons_zero, List.getElem?_cons_succ, Bool.false_eq_true, not_true_eq_false, not_false_eq_true, List.contains_cons, List.contains_nil, Nat.reduceBEq, Bool.true_or, Bool.false_or, Bool.or_true, List.set_cons_zero, List.set_cons_succ, List.length_cons, List.length_nil, isLd, Bool.true_and, Bool.false_and, Bool.and_true, Bool.and_false], by simp (maxSteps := 300000) (disch := omega) only [gs, gs2, gs3, ↓reduceIte, Nat.reduceEqDiff, Nat.mul_one, Nat.add_zero, Nat.zero_add, Nat.zero_mul, Int.toNat_natCast, Int.reduceToNat, Nat.reduceMul, Nat.reduceAdd, decide_true, decide_false, Bool.not_true, Bool.not_false, true_and, and_true, List.map_cons, List.map_nil, List.nil_append, List.cons_append, List.append_nil, Option.map_some, Option.bind_some, List.getElem?_cons_zero, List.getElem?_cons_succ, Bool.false_eq_true, not_true_eq_false, not_false_eq_true, List.contains_cons, List.contains_nil, Nat.reduceBEq, Bool.true_or, Bool.false_or, Bool.or_true, List.set_cons_zero, List.set_cons_succ, List.length_cons, List.length_nil, isLd, Bool.true_and, Bool.false_and, Bool.and_true, Bool.and_false], by simp (maxSteps := 300000) (disch := omega) only [gs, gs2, gs3, ↓reduceIte, Nat.reduceEqDiff, Nat.mul_one, Nat.add_zero, Nat.zero_add, Nat.zero_mul, Int.toNat_natCast, Int.reduceToNat, Nat.reduceMul, Nat.reduceAdd, decide_true, decide_false, Bool.not_true, Bool.not_false, true_and, and_true, List.map_cons, List.map_nil, List.nil_append, List.cons_append, List.append_nil, Option.map_some, Option.bind_some, List.getElem?_cons_zero, List.getElem?_cons_succ, Bool.false_eq_true, not_true_eq_false, not_false_eq_true, List.contains_cons, List.contains_nil, Nat.reduceBEq, Bool.true_or, Bool.false_or, Bool.or_true, List.set_cons_zero, List.set_cons_succ, List.length_cons, List.length_nil, isLd, Bool.true_and, Bool.false_and, Bool.and_true, Bool.and_false] <;> rfl, by omega, by omega, rfl⟩ ?_
  rintro m T G' ⟨k, e16, e18, e22, hm, hkm, rfl⟩
  simp (maxSteps := 300000) (disch := omega) only [gs, gs2, gs3, ↓reduceIte, Nat.reduceEqDiff, Nat.mul_one, Nat.add_zero, Nat.zero_add, Nat.zero_mul, Int.toNat_natCast, Int.reduceToNat, Nat.reduceMul, Nat.reduceAdd, decide_true, decide_false, Bool.not_true, Bool.not_false, true_and, and_true, List.map_cons, List.map_nil, List.nil_append, List.cons_append, List.append_nil, Option.map_some, Option.bind_some, List.getElem?_cons_zero, List.getElem?_cons_succ, Bool.false_eq_true, not_true_eq_false, not_false_eq_true, List.contains_cons, List.contains_nil, Nat.reduceBEq, Bool.true_or, Bool.false_or, Bool.or_true, List.set_cons_zero, List.set_cons_succ, List.length_cons, List.length_nil, isLd, Bool.true_and, Bool.false_and, Bool.and_true, Bool.and_false, e16, e18, e22]
  by_cases hk : (k : Int) < (N.n.toNat : Int)
  · have hrow := rd_sub s67 (hM.row (i := k) (by omega) (by omega))
    have hblk : G7 (Bf k) = some ⟨(mapR (Lp k) N.n.toNat).map I64, true⟩ := by rw [← fcells_mapR]; exact s67 _ _ (hM.b k (by omega))
    have hRI : IntS G7 (some ⟨Bf k, 0, none⟩) (mapR (Lp k) N.n.toNat).length (mapR (Lp k) N.n.toNat) := blk_ints hblk
    have hrl := mapR_len (Lp k) N.n.toNat
    simp (maxSteps := 300000) (disch := omega) only [gs, gs2, gs3, ↓reduceIte, Nat.reduceEqDiff, Nat.mul_one, Nat.add_zero, Nat.zero_add, Nat.zero_mul, Int.toNat_natCast, Int.reduceToNat, Nat.reduceMul, Nat.reduceAdd, decide_true, decide_false, Bool.not_true, Bool.not_false, true_and, and_true, List.map_cons, List.map_nil, List.nil_append, List.cons_append, List.append_nil, Option.map_some, Option.bind_some, List.getElem?_cons_zero, List.getElem?_cons_succ, Bool.false_eq_true, not_true_eq_false, not_false_eq_true, List.contains_cons, List.contains_nil, Nat.reduceBEq, Bool.true_or, Bool.false_or, Bool.or_true, List.set_cons_zero, List.set_cons_succ, List.length_cons, List.length_nil, isLd, Bool.true_and, Bool.false_and, Bool.and_true, Bool.and_false, e16, e18, e22, hk, hrow]
    rw [show Value.slice (some ⟨Bf k, 0, none⟩) N.n.toNat N.n.toNat = .slice (some ⟨Bf k, 0, none⟩) (mapR (Lp k) N.n.toNat).length (mapR (Lp k) N.n.toNat).length by rw [hrl]]
    have hget : ∀ v : Nat, v < N.n.toNat → (mapR (Lp k) N.n.toNat).getD v 0 = Lp k v := fun v hv => by simp [mapR, List.getD, hv]
    refine b10Sum_ok hRI (by omega) (fun i hi => by rw [hget i (by omega)]; have := hlb k i; omega) ?_
    have hs0 : sumN (fun v => (mapR (Lp k) N.n.toNat).getD v.toNat 0) (mapR (Lp k) N.n.toNat).length = 0 := by
      rw [hrl, sumN_congr (g := fun v => Lp k v) _ (fun i hi => by (try dsimp only); rw [Int.toNat_natCast, hget i hi])]
      exact hrs k
    rw [hs0]
    have hd := hDg.rd k (by omega)
    have hdg : (mapR (fun v => Lp v v) N.n.toNat).getD k 0 = Lp k k := by simp [mapR, List.getD, show k < N.n.toNat by omega]
    rw [hdg] at hd
    have hrr := hRI.rd k (by omega)
    rw [hget k (by omega), pa_mk, Nat.zero_add] at hrr
    have hsd := hDg.sn (by omega)
    simp (maxSteps := 300000) (disch := omega) only [gs, gs2, gs3, ↓reduceIte, Nat.reduceEqDiff, Nat.mul_one, Nat.add_zero, Nat.zero_add, Nat.zero_mul, Int.toNat_natCast, Int.reduceToNat, Nat.reduceMul, Nat.reduceAdd, decide_true, decide_false, Bool.not_true, Bool.not_false, true_and, and_true, List.map_cons, List.map_nil, List.nil_append, List.cons_append, List.append_nil, Option.map_some, Option.bind_some, List.getElem?_cons_zero, List.getElem?_cons_succ, Bool.false_eq_true, not_true_eq_false, not_false_eq_true, List.contains_cons, List.contains_nil, Nat.reduceBEq, Bool.true_or, Bool.false_or, Bool.or_true, List.set_cons_zero, List.set_cons_succ, List.length_cons, List.length_nil, isLd, Bool.true_and, Bool.false_and, Bool.and_true, Bool.and_false, e16, e18, e22, hrow, hd, hrr, hrl]
    exact ⟨m - 1, by omega, _, Sub.refl _, k + 1, rfl, by omega, by omega, rfl⟩
  · simp (maxSteps := 300000) (disch := omega) only [gs, gs2, gs3, ↓reduceIte, Nat.reduceEqDiff, Nat.mul_one, Nat.add_zero, Nat.zero_add, Nat.zero_mul, Int.toNat_natCast, Int.reduceToNat, Nat.reduceMul, Nat.reduceAdd, decide_true, decide_false, Bool.not_true, Bool.not_false, true_and, and_true, List.map_cons, List.map_nil, List.nil_append, List.cons_append, List.append_nil, Option.map_some, Option.bind_some, List.getElem?_cons_zero, List.getElem?_cons_succ, Bool.false_eq_true, not_true_eq_false, not_false_eq_true, List.contains_cons, List.contains_nil, Nat.reduceBEq, Bool.true_or, Bool.false_or, Bool.or_true, List.set_cons_zero, List.set_cons_succ, List.length_cons, List.length_nil, isLd, Bool.true_and, Bool.false_and, Bool.and_true, Bool.and_false, e16, e18, e22, hk]
theorem law_FnLaplacians {G : GH} {v0 v1 : Value} {x0 x1 : Nat} (h0 : BytesV G v0 x0) (h1 : BytesV G v1 x1) : GC Try.prog 14 [v0, v1] G fun v _ => v = .bool true := by
  obtain ⟨A0, c0, rfl, h0, l0⟩ := h0
  obtain ⟨A1, c1, rfl, h1, l1⟩ := h1
  refine c_laws_FnLaplacians_i (by simp) ?_
  simp (maxSteps := 300000) (disch := omega) only [gs, gs2, gs3, ↓reduceIte, Nat.reduceEqDiff, Nat.mul_one, Nat.add_zero, Nat.zero_add, Nat.zero_mul, Int.toNat_natCast, Int.reduceToNat, Nat.reduceMul, Nat.reduceAdd, decide_true, decide_false, Bool.not_true, Bool.not_false, true_and, and_true, List.map_cons, List.map_nil, List.nil_append, List.cons_append, List.append_nil, Option.map_some, Option.bind_some, List.getElem?_cons_zero, List.getElem?_cons_succ, Bool.false_eq_true, not_true_eq_false, not_false_eq_true, List.contains_cons, List.contains_nil, Nat.reduceBEq, Bool.true_or, Bool.false_or, Bool.or_true, List.set_cons_zero, List.set_cons_succ, List.length_cons, List.length_nil, isLd, Bool.true_and, Bool.false_and, Bool.and_true, Bool.and_false]
  refine b10Long_ok ?_
  by_cases g0 : (1048576 : Int) < x0
  · simp (maxSteps := 300000) (disch := omega) only [gs, gs2, gs3, ↓reduceIte, Nat.reduceEqDiff, Nat.mul_one, Nat.add_zero, Nat.zero_add, Nat.zero_mul, Int.toNat_natCast, Int.reduceToNat, Nat.reduceMul, Nat.reduceAdd, decide_true, decide_false, Bool.not_true, Bool.not_false, true_and, and_true, List.map_cons, List.map_nil, List.nil_append, List.cons_append, List.append_nil, Option.map_some, Option.bind_some, List.getElem?_cons_zero, List.getElem?_cons_succ, Bool.false_eq_true, not_true_eq_false, not_false_eq_true, List.contains_cons, List.contains_nil, Nat.reduceBEq, Bool.true_or, Bool.false_or, Bool.or_true, List.set_cons_zero, List.set_cons_succ, List.length_cons, List.length_nil, isLd, Bool.true_and, Bool.false_and, Bool.and_true, Bool.and_false, g0]
  simp (maxSteps := 300000) (disch := omega) only [gs, gs2, gs3, ↓reduceIte, Nat.reduceEqDiff, Nat.mul_one, Nat.add_zero, Nat.zero_add, Nat.zero_mul, Int.toNat_natCast, Int.reduceToNat, Nat.reduceMul, Nat.reduceAdd, decide_true, decide_false, Bool.not_true, Bool.not_false, true_and, and_true, List.map_cons, List.map_nil, List.nil_append, List.cons_append, List.append_nil, Option.map_some, Option.bind_some, List.getElem?_cons_zero, List.getElem?_cons_succ, Bool.false_eq_true, not_true_eq_false, not_false_eq_true, List.contains_cons, List.contains_nil, Nat.reduceBEq, Bool.true_or, Bool.false_or, Bool.or_true, List.set_cons_zero, List.set_cons_succ, List.length_cons, List.length_nil, isLd, Bool.true_and, Bool.false_and, Bool.and_true, Bool.and_false, g0]
  refine b10Long_ok ?_
  by_cases g1 : (1048576 : Int) < x1
  · simp (maxSteps := 300000) (disch := omega) only [gs, gs2, gs3, ↓reduceIte, Nat.reduceEqDiff, Nat.mul_one, Nat.add_zero, Nat.zero_add, Nat.zero_mul, Int.toNat_natCast, Int.reduceToNat, Nat.reduceMul, Nat.reduceAdd, decide_true, decide_false, Bool.not_true, Bool.not_false, true_and, and_true, List.map_cons, List.map_nil, List.nil_append, List.cons_append, List.append_nil, Option.map_some, Option.bind_some, List.getElem?_cons_zero, List.getElem?_cons_succ, Bool.false_eq_true, not_true_eq_false, not_false_eq_true, List.contains_cons, List.contains_nil, Nat.reduceBEq, Bool.true_or, Bool.false_or, Bool.or_true, List.set_cons_zero, List.set_cons_succ, List.length_cons, List.length_nil, isLd, Bool.true_and, Bool.false_and, Bool.and_true, Bool.and_false, g1]
  simp (maxSteps := 300000) (disch := omega) only [gs, gs2, gs3, ↓reduceIte, Nat.reduceEqDiff, Nat.mul_one, Nat.add_zero, Nat.zero_add, Nat.zero_mul, Int.toNat_natCast, Int.reduceToNat, Nat.reduceMul, Nat.reduceAdd, decide_true, decide_false, Bool.not_true, Bool.not_false, true_and, and_true, List.map_cons, List.map_nil, List.nil_append, List.cons_append, List.append_nil, Option.map_some, Option.bind_some, List.getElem?_cons_zero, List.getElem?_cons_succ, Bool.false_eq_true, not_true_eq_false, not_false_eq_true, List.contains_cons, List.contains_nil, Nat.reduceBEq, Bool.true_or, Bool.false_or, Bool.or_true, List.set_cons_zero, List.set_cons_succ, List.length_cons, List.length_nil, isLd, Bool.true_and, Bool.false_and, Bool.and_true, Bool.and_false, g1]
  refine spec_DrawEnergyOf_ok h0 fun G1 N Ap cp xs Bp dp hA hV hO hX _ _ s1 => ?_
  have hT := hO.t3
  have hI := hX.ints
  have hxl := hV.1
  have hnl := hA.len
  have hB := h1.sub s1
  clear hO hX
  unfold graV graC
  simp (maxSteps := 300000) (disch := omega) only [gs, gs2, gs3, ↓reduceIte, Nat.reduceEqDiff, Nat.mul_one, Nat.add_zero, Nat.zero_add, Nat.zero_mul, Int.toNat_natCast, Int.reduceToNat, Nat.reduceMul, Nat.reduceAdd, decide_true, decide_false, Bool.not_true, Bool.not_false, true_and, and_true, List.map_cons, List.map_nil, List.nil_append, List.cons_append, List.append_nil, Option.map_some, Option.bind_some, List.getElem?_cons_zero, List.getElem?_cons_succ, Bool.false_eq_true, not_true_eq_false, not_false_eq_true, List.contains_cons, List.contains_nil, Nat.reduceBEq, Bool.true_or, Bool.false_or, Bool.or_true, List.set_cons_zero, List.set_cons_succ, List.length_cons, List.length_nil, isLd, Bool.true_and, Bool.false_and, Bool.and_true, Bool.and_false]
  intro b5 hb5
  simp (maxSteps := 300000) (disch := omega) only [gs, gs2, gs3, ↓reduceIte, Nat.reduceEqDiff, Nat.mul_one, Nat.add_zero, Nat.zero_add, Nat.zero_mul, Int.toNat_natCast, Int.reduceToNat, Nat.reduceMul, Nat.reduceAdd, decide_true, decide_false, Bool.not_true, Bool.not_false, true_and, and_true, List.map_cons, List.map_nil, List.nil_append, List.cons_append, List.append_nil, Option.map_some, Option.bind_some, List.getElem?_cons_zero, List.getElem?_cons_succ, Bool.false_eq_true, not_true_eq_false, not_false_eq_true, List.contains_cons, List.contains_nil, Nat.reduceBEq, Bool.true_or, Bool.false_or, Bool.or_true, List.set_cons_zero, List.set_cons_succ, List.length_cons, List.length_nil, isLd, Bool.true_and, Bool.false_and, Bool.and_true, Bool.and_false]
  refine st_fresh (vs := graC N Ap cp) rfl rfl rfl (by intro v hv; simp [graC] at hv; rcases hv with rfl | rfl <;> rfl) ?_
  have s5 := Sub.put hb5 ⟨graC N Ap cp, true⟩
  have k0 : rd (put G1 b5 ⟨graC N Ap cp, true⟩) (some ⟨b5, 0, none⟩) = some (.int .i64 N.n) := rd_box _ _ _ 0 _ rfl
  have k1 : rd (put G1 b5 ⟨graC N Ap cp, true⟩) (some ⟨b5, 1, none⟩) = some (.slice Ap N.edges.length cp) := rd_box _ _ _ 1 _ rfl
  have hT := hT.sub s5
  have hI := hI.sub s5
  have hB := hB.sub s5
  revert k0 k1 hT hI hB
  generalize put G1 b5 ⟨graC N Ap cp, true⟩ = H
  intro k0 k1 hT hI hB
  clear s5 s1 hb5 h0 h1
  simp (maxSteps := 300000) (disch := omega) only [gs, gs2, gs3, ↓reduceIte, Nat.reduceEqDiff, Nat.mul_one, Nat.add_zero, Nat.zero_add, Nat.zero_mul, Int.toNat_natCast, Int.reduceToNat, Nat.reduceMul, Nat.reduceAdd, decide_true, decide_false, Bool.not_true, Bool.not_false, true_and, and_true, List.map_cons, List.map_nil, List.nil_append, List.cons_append, List.append_nil, Option.map_some, Option.bind_some, List.getElem?_cons_zero, List.getElem?_cons_succ, Bool.false_eq_true, not_true_eq_false, not_false_eq_true, List.contains_cons, List.contains_nil, Nat.reduceBEq, Bool.true_or, Bool.false_or, Bool.or_true, List.set_cons_zero, List.set_cons_succ, List.length_cons, List.length_nil, isLd, Bool.true_and, Bool.false_and, Bool.and_true, Bool.and_false, k0, k1]
  refine impl_EnergyOf_ok (N := N) hT hI (by omega) (by omega) ?_
  unfold pairV
  simp (maxSteps := 300000) (disch := omega) only [gs, gs2, gs3, ↓reduceIte, Nat.reduceEqDiff, Nat.mul_one, Nat.add_zero, Nat.zero_add, Nat.zero_mul, Int.toNat_natCast, Int.reduceToNat, Nat.reduceMul, Nat.reduceAdd, decide_true, decide_false, Bool.not_true, Bool.not_false, true_and, and_true, List.map_cons, List.map_nil, List.nil_append, List.cons_append, List.append_nil, Option.map_some, Option.bind_some, List.getElem?_cons_zero, List.getElem?_cons_succ, Bool.false_eq_true, not_true_eq_false, not_false_eq_true, List.contains_cons, List.contains_nil, Nat.reduceBEq, Bool.true_or, Bool.false_or, Bool.or_true, List.set_cons_zero, List.set_cons_succ, List.length_cons, List.length_nil, isLd, Bool.true_and, Bool.false_and, Bool.and_true, Bool.and_false, k0, k1]
  refine impl_ApplyLaplacian_ok (N := N) hT hI (by omega) (by omega) fun G2 Ay cy hN2 => ?_
  have s2 := hN2.sub
  have q0 := rd_sub s2 k0
  have q1 := rd_sub s2 k1
  have hT2 := hT.sub s2
  have hI2 := hI.sub s2
  have hB2 := hB.sub s2
  have hY := hN2.ints
  clear hN2 hT hI hB k0 k1 s2
  by_cases ga : askC N xs = 0
  rotate_left
  · rw [show energyV N xs = (0, askC N xs) from if_pos ga, show applyV N xs = ([], askC N xs) from if_pos ga]
    simp (maxSteps := 300000) (disch := omega) only [gs, gs2, gs3, ↓reduceIte, Nat.reduceEqDiff, Nat.mul_one, Nat.add_zero, Nat.zero_add, Nat.zero_mul, Int.toNat_natCast, Int.reduceToNat, Nat.reduceMul, Nat.reduceAdd, decide_true, decide_false, Bool.not_true, Bool.not_false, true_and, and_true, List.map_cons, List.map_nil, List.nil_append, List.cons_append, List.append_nil, Option.map_some, Option.bind_some, List.getElem?_cons_zero, List.getElem?_cons_succ, Bool.false_eq_true, not_true_eq_false, not_false_eq_true, List.contains_cons, List.contains_nil, Nat.reduceBEq, Bool.true_or, Bool.false_or, Bool.or_true, List.set_cons_zero, List.set_cons_succ, List.length_cons, List.length_nil, isLd, Bool.true_and, Bool.false_and, Bool.and_true, Bool.and_false, eq_true (show askC N xs = askC N xs from rfl), eq_false ga]
    exact lapl_half hB2
  obtain ⟨hn, hx⟩ := askC_zero.1 ga
  have hn1 := hn.1
  have hx1 := hx.1
  have hn4 := hn.2.2.2
  have e1 : energyV N xs = (enK N.edges xs N.edges.length, 0) := if_neg (by simp [ga])
  have e2 : applyV N xs = (mapR (apK N.edges xs N.edges.length) N.n.toNat, 0) := if_neg (by simp [ga])
  rw [e2] at hY
  rw [e1, e2]
  have hY : IntS G2 Ay cy (mapR (apK N.edges xs N.edges.length) N.n.toNat) := hY
  have hml := mapR_len (apK N.edges xs N.edges.length) N.n.toNat
  have hsum := ap_sum hn xs _ (Nat.le_refl _)
  have hen := ap_energy hn xs _ (Nat.le_refl _)
  have hiff := en_iff hn xs
  have hnn := en_nn hn xs _ (Nat.le_refl _)
  have hbd : ∀ i, -432000000 ≤ apK N.edges xs N.edges.length i ∧ apK N.edges xs N.edges.length i ≤ 432000000 := fun i => by
    have := apK_bd hn hx i _ (Nat.le_refl _); omega
  have hharm : HarmP N xs [] ↔ ∀ i : Nat, i < N.n.toNat → apK N.edges xs N.edges.length i = 0 := by
    constructor
    · intro h i hi
      rcases Int.lt_trichotomy (apK N.edges xs N.edges.length i) 0 with q | q | q
      · have := h.2.2 i hi (by omega); simp at this
      · exact q
      · have := h.2.2 i hi (by omega); simp at this
    · exact fun h => ⟨ga, ⟨fun i hi => by simp at hi, fun i hi => by simp at hi⟩, fun i hi hne => absurd (h i hi) hne⟩
  generalize apK N.edges xs N.edges.length = ap at *
  generalize enK N.edges xs N.edges.length = en at *
  have hget : ∀ v : Nat, v < N.n.toNat → (mapR ap N.n.toNat).getD v 0 = ap v := fun v hv => by simp [mapR, List.getD, hv]
  simp (maxSteps := 300000) (disch := omega) only [gs, gs2, gs3, ↓reduceIte, Nat.reduceEqDiff, Nat.mul_one, Nat.add_zero, Nat.zero_add, Nat.zero_mul, Int.toNat_natCast, Int.reduceToNat, Nat.reduceMul, Nat.reduceAdd, decide_true, decide_false, Bool.not_true, Bool.not_false, true_and, and_true, List.map_cons, List.map_nil, List.nil_append, List.cons_append, List.append_nil, Option.map_some, Option.bind_some, List.getElem?_cons_zero, List.getElem?_cons_succ, Bool.false_eq_true, not_true_eq_false, not_false_eq_true, List.contains_cons, List.contains_nil, Nat.reduceBEq, Bool.true_or, Bool.false_or, Bool.or_true, List.set_cons_zero, List.set_cons_succ, List.length_cons, List.length_nil, isLd, Bool.true_and, Bool.false_and, Bool.and_true, Bool.and_false, eq_true (show (0 : Int) = 0 from rfl), show (((mapR ap N.n.toNat).length : Int) = xs.length) = True from eq_true (by omega)]
  refine b10Sum_ok hY (by omega) (fun i hi => by rw [hget i (by omega)]; have := hbd i; omega) ?_
  have hs0 : sumN (fun v => (mapR ap N.n.toNat).getD v.toNat 0) (mapR ap N.n.toNat).length = 0 := by
    rw [hml, sumN_congr (g := fun v => ap v) _ (fun i hi => by (try dsimp only); rw [Int.toNat_natCast, hget i hi])]
    exact hsum
  rw [hs0]
  simp (maxSteps := 300000) (disch := omega) only [gs, gs2, gs3, ↓reduceIte, Nat.reduceEqDiff, Nat.mul_one, Nat.add_zero, Nat.zero_add, Nat.zero_mul, Int.toNat_natCast, Int.reduceToNat, Nat.reduceMul, Nat.reduceAdd, decide_true, decide_false, Bool.not_true, Bool.not_false, true_and, and_true, List.map_cons, List.map_nil, List.nil_append, List.cons_append, List.append_nil, Option.map_some, Option.bind_some, List.getElem?_cons_zero, List.getElem?_cons_succ, Bool.false_eq_true, not_true_eq_false, not_false_eq_true, List.contains_cons, List.contains_nil, Nat.reduceBEq, Bool.true_or, Bool.false_or, Bool.or_true, List.set_cons_zero, List.set_cons_succ, List.length_cons, List.length_nil, isLd, Bool.true_and, Bool.false_and, Bool.and_true, Bool.and_false, eq_true (show (0 : Int) = 0 from rfl)]
  refine gLoop_intro (fun m T G' => ∃ k : Nat, T 1 = .slice A1 x1 c1 ∧ T 5 = .pointer (some ⟨b5, 0, none⟩) ∧ T 6 = .slice Bp xs.length dp ∧ T 7 = .int .i64 en ∧ T 9 = .slice Ay (mapR ap N.n.toNat).length cy ∧ T 11 = .int .i64 (sumN (fun i => xg xs i * ap i) k) ∧ T 12 = .int .i64 k ∧ m + k = N.n.toNat ∧ k ≤ N.n.toNat ∧ G2 = G')
    N.n.toNat ⟨0, by simp (maxSteps := 300000) (disch := omega) only [gs, gs2, gs3, ↓reduceIte, Nat.reduceEqDiff, Nat.mul_one, Nat.add_zero, Nat.zero_add, Nat.zero_mul, Int.toNat_natCast, Int.reduceToNat, Nat.reduceMul, Nat.reduceAdd, decide_true, decide_false, Bool.not_true, Bool.not_false, true_and, and_true, List.map_cons, List.map_nil, List.nil_append, List.cons_append, List.append_nil, Option.map_some, Option.bind_some, List.getElem?_cons_zero, List.getElem?_cons_succ, Bool.false_eq_true, not_true_eq_false, not_false_eq_true, List.contains_cons, List.contains_nil, Nat.reduceBEq, Bool.true_or, Bool.false_or, Bool.or_true, List.set_cons_zero, List.set_cons_succ, List.length_cons, List.length_nil, isLd, Bool.true_and, Bool.false_and, Bool.and_true, Bool.and_false], by simp (maxSteps := 300000) (disch := omega) only [gs, gs2, gs3, ↓reduceIte, Nat.reduceEqDiff, Nat.mul_one, Nat.add_zero, Nat.zero_add, Nat.zero_mul, Int.toNat_natCast, Int.reduceToNat, Nat.reduceMul, Nat.reduceAdd, decide_true, decide_false, Bool.not_true, Bool.not_false, true_and, and_true, List.map_cons, List.map_nil, List.nil_append, List.cons_append, List.append_nil, Option.map_some, Option.bind_some, List.getElem?_cons_zero, List.getElem?_cons_succ, Bool.false_eq_true, not_true_eq_false, not_false_eq_true, List.contains_cons, List.contains_nil, Nat.reduceBEq, Bool.true_or, Bool.false_or, Bool.or_true, List.set_cons_zero, List.set_cons_succ, List.length_cons, List.length_nil, isLd, Bool.true_and, Bool.false_and, Bool.and_true, Bool.and_false], by simp (maxSteps := 300000) (disch := omega) only [gs, gs2, gs3, ↓reduceIte, Nat.reduceEqDiff, Nat.mul_one, Nat.add_zero, Nat.zero_add, Nat.zero_mul, Int.toNat_natCast, Int.reduceToNat, Nat.reduceMul, Nat.reduceAdd, decide_true, decide_false, Bool.not_true, Bool.not_false, true_and, and_true, List.map_cons, List.map_nil, List.nil_append, List.cons_append, List.append_nil, Option.map_some, Option.bind_some, List.getElem?_cons_zero, List.getElem?_cons_succ, Bool.false_eq_true, not_true_eq_false, not_false_eq_true, List.contains_cons, List.contains_nil, Nat.reduceBEq, Bool.true_or, Bool.false_or, Bool.or_true, List.set_cons_zero, List.set_cons_succ, List.length_cons, List.length_nil, isLd, Bool.true_and, Bool.false_and, Bool.and_true, Bool.and_false], by simp (maxSteps := 300000) (disch := omega) only [gs, gs2, gs3, ↓reduceIte, Nat.reduceEqDiff, Nat.mul_one, Nat.add_zero, Nat.zero_add, Nat.zero_mul, Int.toNat_natCast, Int.reduceToNat, Nat.reduceMul, Nat.reduceAdd, decide_true, decide_false, Bool.not_true, Bool.not_false, true_and, and_true, List.map_cons, List.map_nil, List.nil_append, List.cons_append, List.append_nil, Option.map_some, Option.bind_some, List.getElem?_cons_zero, List.getElem?_cons_succ, Bool.false_eq_true, not_true_eq_false, not_false_eq_true, List.contains_cons, List.contains_nil, Nat.reduceBEq, Bool.true_or, Bool.false_or, Bool.or_true, List.set_cons_zero, List.set_cons_succ, List.length_cons, List.length_nil, isLd, Bool.true_and, Bool.false_and, Bool.and_true, Bool.and_false], by simp (maxSteps := 300000) (disch := omega) only [gs, gs2, gs3, ↓reduceIte, Nat.reduceEqDiff, Nat.mul_one, Nat.add_zero, Nat.zero_add, Nat.zero_mul, Int.toNat_natCast, Int.reduceToNat, Nat.reduceMul, Nat.reduceAdd, decide_true, decide_false, Bool.not_true, Bool.not_false, true_and, and_true, List.map_cons, List.map_nil, List.nil_append, List.cons_append, List.append_nil, Option.map_some, Option.bind_some, List.getElem?_cons_zero, List.getElem?_cons_succ, Bool.false_eq_true, not_true_eq_false, not_false_eq_true, List.contains_cons, List.contains_nil, Nat.reduceBEq, Bool.true_or, Bool.false_or, Bool.or_true, List.set_cons_zero, List.set_cons_succ, List.length_cons, List.length_nil, isLd, Bool.true_and, Bool.false_and, Bool.and_true, Bool.and_false], by simp (maxSteps := 300000) (disch := omega) only [gs, gs2, gs3, ↓reduceIte, Nat.reduceEqDiff, Nat.mul_one, Nat.add_zero, Nat.zero_add, Nat.zero_mul, Int.toNat_natCast, Int.reduceToNat, Nat.reduceMul, Nat.reduceAdd, decide_true, decide_false, Bool.not_true, Bool.not_false, true_and, and_true, List.map_cons, List.map_nil, List.nil_append, List.cons_append, List.append_nil, Option.map_some, Option.bind_some, List.getElem?_cons_zero, List.getElem?_cons_succ, Bool.false_eq_true, not_true_eq_false, not_false_eq_true, List.contains_cons, List.contains_nil, Nat.reduceBEq, Bool.true_or, Bool.false_or, Bool.or_true, List.set_cons_zero, List.set_cons_succ, List.length_cons, List.length_nil, isLd, Bool.true_and, Bool.false_and, Bool.and_true, Bool.and_false] <;> rfl, by simp (maxSteps := 300000) (disch := omega) only [gs, gs2, gs3, ↓reduceIte, Nat.reduceEqDiff, Nat.mul_one, Nat.add_zero, Nat.zero_add, Nat.zero_mul, Int.toNat_natCast, Int.reduceToNat, Nat.reduceMul, Nat.reduceAdd, decide_true, decide_false, Bool.not_true, Bool.not_false, true_and, and_true, List.map_cons, List.map_nil, List.nil_append, List.cons_append, List.append_nil, Option.map_some, Option.bind_some, List.getElem?_cons_zero, List.getElem?_cons_succ, Bool.false_eq_true, not_true_eq_false, not_false_eq_true, List.contains_cons, List.contains_nil, Nat.reduceBEq, Bool.true_or, Bool.false_or, Bool.or_true, List.set_cons_zero, List.set_cons_succ, List.length_cons, List.length_nil, isLd, Bool.true_and, Bool.false_and, Bool.and_true, Bool.and_false] <;> rfl, by omega, by omega, rfl⟩ ?_
  rintro m T G' ⟨k, t1, t5, t6, t7, t9, t11, t12, hm, hkm, rfl⟩
  simp (maxSteps := 300000) (disch := omega) only [gs, gs2, gs3, ↓reduceIte, Nat.reduceEqDiff, Nat.mul_one, Nat.add_zero, Nat.zero_add, Nat.zero_mul, Int.toNat_natCast, Int.reduceToNat, Nat.reduceMul, Nat.reduceAdd, decide_true, decide_false, Bool.not_true, Bool.not_false, true_and, and_true, List.map_cons, List.map_nil, List.nil_append, List.cons_append, List.append_nil, Option.map_some, Option.bind_some, List.getElem?_cons_zero, List.getElem?_cons_succ, Bool.false_eq_true, not_true_eq_false, not_false_eq_true, List.contains_cons, List.contains_nil, Nat.reduceBEq, Bool.true_or, Bool.false_or, Bool.or_true, List.set_cons_zero, List.set_cons_succ, List.length_cons, List.length_nil, isLd, Bool.true_and, Bool.false_and, Bool.and_true, Bool.and_false, t1, t5, t6, t7, t9, t11, t12]
  by_cases hk : (k : Int) < xs.length
  · have r1 := xg_rd (v := (k : Int)) hI2 (by omega)
    rw [Int.toNat_natCast] at r1
    have r2 := hY.rd k (by omega)
    rw [hget k (by omega)] at r2
    have sB := hI2.sn (by omega)
    have sY := hY.sn (by omega)
    have b1 := xg_bd hx (v := (k : Int)) ⟨by omega, by omega⟩
    have mb := mulB (a := xg xs k) (b := ap k) (A := 1000000) (B := 432000000) (by omega) (by have := hbd k; omega)
    have sb := sumN_bd (f := fun i => xg xs i * ap i) (M := 432000000000000) k fun i hi => by
      have := mulB (a := xg xs i) (b := ap i) (A := 1000000) (B := 432000000) (by have := xg_bd hx (v := (i : Int)) ⟨by omega, by omega⟩; omega) (by have := hbd i; omega)
      try dsimp only
      omega
    have w1 : IntKind.i64.wrap (xg xs k * ap k) = xg xs k * ap k := w64 _ (by omega) (by omega)
    have w2 : IntKind.i64.wrap (sumN (fun i => xg xs i * ap i) k + xg xs k * ap k) = sumN (fun i => xg xs i * ap i) (k + 1) := by rw [w64 _ (by omega) (by omega)]; rfl
    simp (maxSteps := 300000) (disch := omega) only [gs, gs2, gs3, ↓reduceIte, Nat.reduceEqDiff, Nat.mul_one, Nat.add_zero, Nat.zero_add, Nat.zero_mul, Int.toNat_natCast, Int.reduceToNat, Nat.reduceMul, Nat.reduceAdd, decide_true, decide_false, Bool.not_true, Bool.not_false, true_and, and_true, List.map_cons, List.map_nil, List.nil_append, List.cons_append, List.append_nil, Option.map_some, Option.bind_some, List.getElem?_cons_zero, List.getElem?_cons_succ, Bool.false_eq_true, not_true_eq_false, not_false_eq_true, List.contains_cons, List.contains_nil, Nat.reduceBEq, Bool.true_or, Bool.false_or, Bool.or_true, List.set_cons_zero, List.set_cons_succ, List.length_cons, List.length_nil, isLd, Bool.true_and, Bool.false_and, Bool.and_true, Bool.and_false, t1, t5, t6, t7, t9, t11, t12, hk, r1, r2, w1, w2]
    exact ⟨m - 1, by omega, _, Sub.refl _, k + 1, rfl, rfl, by omega, by omega, rfl⟩
  · obtain rfl : k = N.n.toNat := by omega
    rw [hen] at t11
    simp (maxSteps := 300000) (disch := omega) only [gs, gs2, gs3, ↓reduceIte, Nat.reduceEqDiff, Nat.mul_one, Nat.add_zero, Nat.zero_add, Nat.zero_mul, Int.toNat_natCast, Int.reduceToNat, Nat.reduceMul, Nat.reduceAdd, decide_true, decide_false, Bool.not_true, Bool.not_false, true_and, and_true, List.map_cons, List.map_nil, List.nil_append, List.cons_append, List.append_nil, Option.map_some, Option.bind_some, List.getElem?_cons_zero, List.getElem?_cons_succ, Bool.false_eq_true, not_true_eq_false, not_false_eq_true, List.contains_cons, List.contains_nil, Nat.reduceBEq, Bool.true_or, Bool.false_or, Bool.or_true, List.set_cons_zero, List.set_cons_succ, List.length_cons, List.length_nil, isLd, Bool.true_and, Bool.false_and, Bool.and_true, Bool.and_false, t1, t5, t6, t7, t9, t11, t12, hk, q0, q1, eq_true (show en = en from rfl), show (en < 0) = False from eq_false (by omega), gBs]
    refine ⟨by intro v hv; simp at hv, fun bx hbx => ?_⟩
    have sx := Sub.put hbx ⟨[], true⟩
    refine impl_IsHarmonic_ok (N := N) (fixed := []) (hT2.sub sx) (hI2.sub sx) (blk_ints (xs := []) (put_same _ _ _)) (by omega) (by omega) (by simp) fun bb1 h1 => ?_
    simp (maxSteps := 300000) (disch := omega) only [gs, gs2, gs3, ↓reduceIte, Nat.reduceEqDiff, Nat.mul_one, Nat.add_zero, Nat.zero_add, Nat.zero_mul, Int.toNat_natCast, Int.reduceToNat, Nat.reduceMul, Nat.reduceAdd, decide_true, decide_false, Bool.not_true, Bool.not_false, true_and, and_true, List.map_cons, List.map_nil, List.nil_append, List.cons_append, List.append_nil, Option.map_some, Option.bind_some, List.getElem?_cons_zero, List.getElem?_cons_succ, Bool.false_eq_true, not_true_eq_false, not_false_eq_true, List.contains_cons, List.contains_nil, Nat.reduceBEq, Bool.true_or, Bool.false_or, Bool.or_true, List.set_cons_zero, List.set_cons_succ, List.length_cons, List.length_nil, isLd, Bool.true_and, Bool.false_and, Bool.and_true, Bool.and_false, t1, t5, t6, t7, t9]
    refine b10Zero_ok (hY.sub sx) (by omega) fun bb2 h2 => ?_
    have he : bb1 = bb2 := Bool.eq_iff_iff.2 (by
      rw [h1, h2, hharm, hml]
      exact ⟨fun h i hi => by rw [hget i hi]; exact h i hi, fun h i hi => by rw [← hget i hi]; exact h i hi⟩)
    subst he
    cases bb1
    · simp (maxSteps := 300000) (disch := omega) only [gs, gs2, gs3, ↓reduceIte, Nat.reduceEqDiff, Nat.mul_one, Nat.add_zero, Nat.zero_add, Nat.zero_mul, Int.toNat_natCast, Int.reduceToNat, Nat.reduceMul, Nat.reduceAdd, decide_true, decide_false, Bool.not_true, Bool.not_false, true_and, and_true, List.map_cons, List.map_nil, List.nil_append, List.cons_append, List.append_nil, Option.map_some, Option.bind_some, List.getElem?_cons_zero, List.getElem?_cons_succ, Bool.false_eq_true, not_true_eq_false, not_false_eq_true, List.contains_cons, List.contains_nil, Nat.reduceBEq, Bool.true_or, Bool.false_or, Bool.or_true, List.set_cons_zero, List.set_cons_succ, List.length_cons, List.length_nil, isLd, Bool.true_and, Bool.false_and, Bool.and_true, Bool.and_false, t1, eq_true (show (false : Bool) = false from rfl)]
      exact lapl_half (hB2.sub sx)
    · simp (maxSteps := 300000) (disch := omega) only [gs, gs2, gs3, ↓reduceIte, Nat.reduceEqDiff, Nat.mul_one, Nat.add_zero, Nat.zero_add, Nat.zero_mul, Int.toNat_natCast, Int.reduceToNat, Nat.reduceMul, Nat.reduceAdd, decide_true, decide_false, Bool.not_true, Bool.not_false, true_and, and_true, List.map_cons, List.map_nil, List.nil_append, List.cons_append, List.append_nil, Option.map_some, Option.bind_some, List.getElem?_cons_zero, List.getElem?_cons_succ, Bool.false_eq_true, not_true_eq_false, not_false_eq_true, List.contains_cons, List.contains_nil, Nat.reduceBEq, Bool.true_or, Bool.false_or, Bool.or_true, List.set_cons_zero, List.set_cons_succ, List.length_cons, List.length_nil, isLd, Bool.true_and, Bool.false_and, Bool.and_true, Bool.and_false, t1, eq_true (show (true : Bool) = true from rfl)]
      exact lapl_half (hB2.sub sx)

end Go.Proofs.Ytmlkgpoakkgjbaa.Gh
