/- What the functions that the law ReduceTables reaches return, and the law; it stands under no condition. -/
import Derived.Test.YtanpmilodaejpaaYReduceTablesb
namespace Go.Proofs.Ytanpmilodaejpaa.Gh
open Go Go.RowKit Go.Proofs
set_option linter.unusedVariables false
set_option linter.unusedSimpArgs false
set_option maxHeartbeats 4000000

open Classical in
theorem spec_l20Semi_ok {G : GH} {q q' : Option Addr} {a b : Tab} {A B A' B' : Option Addr} {c d c' d' : Nat} {hs hs' : Nat → Option Addr × Nat} (p2 : TabP G q a A c B d hs) (p3 : TabP G q' b A' c' B' d' hs') (ha : TabOk a) (hb : TabOk b)
    {K : Value → GH → Prop} (hk : ∀ G' X x Y y hs'', NewT G G' (semiT a b) X x Y y hs'' → K (tabV (semiT a b) X x Y y) G') : GC Try.prog 33 [.pointer q, .pointer q'] G K := by
  refine GC_drop (c_spec_l20Semi_i (by simp) ?_)
  obtain ⟨ra, ca, na⟩ := ha.rowL
  obtain ⟨rb, cb, nb⟩ := hb.rowL
  have hq := rd_some p2.f0
  have hq' := rd_some p3.f0
  simp (maxSteps := 300000) (disch := omega) only [gs, gs2, gs3, gs4, ↓reduceIte, Nat.reduceEqDiff, Int.reduceToNat, Nat.reduceMul, Nat.reduceAdd, Nat.reduceBEq, isLd]
  intro b4 hb4
  have s4 := Sub.put hb4 ⟨[.slice none 0 0, .slice none 0 0], true⟩
  have g4 := put_same G b4 ⟨[.slice none 0 0, .slice none 0 0], true⟩
  have p2 := p2.sub s4
  have p3 := p3.sub s4
  revert s4 p2 p3 g4
  generalize put G b4 ⟨[.slice none 0 0, .slice none 0 0], true⟩ = G2
  intro s4 g4 p2 p3
  simp (maxSteps := 300000) (disch := omega) only [gs, gs2, gs3, gs4, ↓reduceIte, Nat.reduceEqDiff, Int.reduceToNat, Nat.reduceMul, Nat.reduceAdd, Nat.reduceBEq, isLd, p2.f0]
  refine spec_l00Own_ok p2.cols (by omega) fun H A1 c1 hN1 => ?_
  have p2 := p2.sub hN1.sub
  have p3 := p3.sub hN1.sub
  have g4' := hN1.sub _ _ g4
  simp (maxSteps := 300000) (disch := omega) only [gs, gs2, gs3, gs4, ↓reduceIte, Nat.reduceEqDiff, Int.reduceToNat, Nat.reduceMul, Nat.reduceAdd, Nat.reduceBEq, isLd, p2.f0, gBs]
  refine ⟨by intro v hv; simp at hv, fun bz hbz => ?_⟩
  have hbl : bldV [Value.slice none 0 0, Value.slice none 0 0] [(0, 1, Value.slice A1 a.cols.length c1), (1, 1, Value.slice (some ⟨bz, 0, none⟩) 0 0)] = some [Value.slice A1 a.cols.length c1, .slice (some ⟨bz, 0, none⟩) 0 0] := rfl
  simp (maxSteps := 300000) (disch := omega) only [gs, gs2, gs3, gs4, ↓reduceIte, Nat.reduceEqDiff, Int.reduceToNat, Nat.reduceMul, Nat.reduceAdd, Nat.reduceBEq, isLd, hbl]
  intro b5 hb5
  simp (maxSteps := 300000) (disch := omega) only [gs, gs2, gs3, gs4, ↓reduceIte, Nat.reduceEqDiff, Int.reduceToNat, Nat.reduceMul, Nat.reduceAdd, Nat.reduceBEq, isLd]
  refine st_fresh (vs := [.slice A1 a.cols.length c1, .slice (some ⟨bz, 0, none⟩) 0 0]) rfl rfl rfl (by intro v hv; simp at hv; rcases hv with rfl | rfl <;> rfl) ?_
  have n5z : b5 ≠ bz := (put_none.1 hb5).1
  have hb5' : H b5 = none := (put_none.1 hb5).2
  have hX0 : SemG H (put (put H bz ⟨[], true⟩) b5 ⟨[.slice A1 a.cols.length c1, .slice (some ⟨bz, 0, none⟩) 0 0], true⟩) b5 A1 a.cols.length c1 (some ⟨bz, 0, none⟩) 0 (fun _ => (none, 0)) [] := by
    refine ⟨hb5', fun x e hx => ?_, ⟨.inr ⟨bz, [], rfl, by rw [put_ne _ _ n5z.symm]; exact put_same _ _ _, rfl, rfl, Nat.le_refl _⟩, fun i hi => by simp at hi, fun i hi => by simp at hi, fun i j hi => by simp at hi⟩, fun a ha => by cases ha; rw [put_ne _ _ n5z.symm]; exact hbz, fun i hi => by simp at hi⟩
    by_cases c : x = b5
    · subst c; rw [put_same] at hx ⊢; exact hx
    · rw [put_ne _ _ c] at hx ⊢
      rw [put_ne _ _ (fun y => by subst y; rw [hbz] at hx; cases hx)]; exact hx
  have hA1 : Own H A1 c1 (a.cols.map I64) 1 a.cols.length := hN1.fresh
  have sH := s4.trans hN1.sub
  have oA1 : Off G A1 := hN1.off.mono s4
  have n41 : ∀ x, A1 = some x → x.block ≠ b4 := fun x hx y => by have := hN1.off x hx; rw [y, g4] at this; cases this
  clear hN1 g4
  have e0 : (put (put H bz ⟨List.flatMap (fun v : Value => v.cells.toList) [], true⟩) b5 ⟨[.slice A1 a.cols.length c1, .slice (some ⟨bz, 0, none⟩) 0 0], true⟩) = (put (put H bz ⟨[], true⟩) b5 ⟨[.slice A1 a.cols.length c1, .slice (some ⟨bz, 0, none⟩) 0 0], true⟩) := rfl
  try rw [e0]
  generalize put (put H bz ⟨[], true⟩) b5 ⟨[.slice A1 a.cols.length c1, .slice (some ⟨bz, 0, none⟩) 0 0], true⟩ = G3 at hX0 ⊢
  simp (maxSteps := 300000) (disch := omega) only [gs, gs2, gs3, gs4, ↓reduceIte, Nat.reduceEqDiff, Int.reduceToNat, Nat.reduceMul, Nat.reduceAdd, Nat.reduceBEq, isLd]
  refine gLoop_intro (fun m T G' => ∃ (k : Nat) (Z : Option Addr) (z : Nat) (hz : Nat → Option Addr × Nat), T 0 = .pointer q ∧ T 1 = .pointer q' ∧ T 4 = .pointer (some ⟨b4, 0, none⟩) ∧ T 5 = .pointer (some ⟨b5, 0, none⟩) ∧ T 6 = .int .i64 k ∧ m + k = a.rows.length ∧ k ≤ a.rows.length ∧
      SemG H G' b5 A1 a.cols.length c1 Z z hz ((a.rows.take k).filter fun x => decide (∃ y ∈ b.rows, FitP a.cols b.cols x y))) a.rows.length
    ⟨0, _, 0, _, by simp (maxSteps := 300000) (disch := omega) only [gs, gs2, gs3, gs4, ↓reduceIte, Nat.reduceEqDiff, Int.reduceToNat, Nat.reduceMul, Nat.reduceAdd, Nat.reduceBEq, isLd], by simp (maxSteps := 300000) (disch := omega) only [gs, gs2, gs3, gs4, ↓reduceIte, Nat.reduceEqDiff, Int.reduceToNat, Nat.reduceMul, Nat.reduceAdd, Nat.reduceBEq, isLd], by simp (maxSteps := 300000) (disch := omega) only [gs, gs2, gs3, gs4, ↓reduceIte, Nat.reduceEqDiff, Int.reduceToNat, Nat.reduceMul, Nat.reduceAdd, Nat.reduceBEq, isLd], by simp (maxSteps := 300000) (disch := omega) only [gs, gs2, gs3, gs4, ↓reduceIte, Nat.reduceEqDiff, Int.reduceToNat, Nat.reduceMul, Nat.reduceAdd, Nat.reduceBEq, isLd], by simp (maxSteps := 300000) (disch := omega) only [gs, gs2, gs3, gs4, ↓reduceIte, Nat.reduceEqDiff, Int.reduceToNat, Nat.reduceMul, Nat.reduceAdd, Nat.reduceBEq, isLd] <;> rfl, by omega, by omega, hX0⟩ ?_
  clear hX0
  rintro m T G' ⟨k, Z, z, hz, e0, e1, e4, e5, e6, hm, hkl, hX⟩
  have q2 := p2.sub hX.low
  have q3 := p3.sub hX.low
  simp (maxSteps := 300000) (disch := omega) only [gs, gs2, gs3, gs4, ↓reduceIte, Nat.reduceEqDiff, Int.reduceToNat, Nat.reduceMul, Nat.reduceAdd, Nat.reduceBEq, isLd, e0, e1, e4, e5, e6, q2.f1]
  have hlen : ((a.rows.take k).filter fun x => decide (∃ y ∈ b.rows, FitP a.cols b.cols x y)).length ≤ k := Nat.le_trans (List.length_filter_le _ _) (by rw [List.length_take]; omega)
  by_cases hkk : (k : Int) < a.rows.length
  · have rk := q2.rows.r k (by omega)
    have hsB := q2.rows.sn (by omega)
    have hxl := ra k (by omega)
    simp (maxSteps := 300000) (disch := omega) only [gs, gs2, gs3, gs4, ↓reduceIte, Nat.reduceEqDiff, Int.reduceToNat, Nat.reduceMul, Nat.reduceAdd, Nat.reduceBEq, isLd, e0, e1, e4, e5, e6, q2.f1, hkk]
    refine gLoop_intro (fun m' T' G'' => ∃ (j : Nat) (zz : Bool), T' 0 = .pointer q ∧ T' 1 = .pointer q' ∧ T' 4 = .pointer (some ⟨b4, 0, none⟩) ∧ T' 5 = .pointer (some ⟨b5, 0, none⟩) ∧ T' 6 = .int .i64 k ∧ T' 7 = .bool zz ∧ T' 8 = .int .i64 j ∧ m' + j = b.rows.length ∧ j ≤ b.rows.length ∧ G'' = G' ∧ (zz = true ↔ ∃ i, i < j ∧ FitP a.cols b.cols (a.rows.getD k []) (b.rows.getD i []))) b.rows.length
      ⟨0, false, by simp (maxSteps := 300000) (disch := omega) only [gs, gs2, gs3, gs4, ↓reduceIte, Nat.reduceEqDiff, Int.reduceToNat, Nat.reduceMul, Nat.reduceAdd, Nat.reduceBEq, isLd, e0], by simp (maxSteps := 300000) (disch := omega) only [gs, gs2, gs3, gs4, ↓reduceIte, Nat.reduceEqDiff, Int.reduceToNat, Nat.reduceMul, Nat.reduceAdd, Nat.reduceBEq, isLd, e1], by simp (maxSteps := 300000) (disch := omega) only [gs, gs2, gs3, gs4, ↓reduceIte, Nat.reduceEqDiff, Int.reduceToNat, Nat.reduceMul, Nat.reduceAdd, Nat.reduceBEq, isLd, e4], by simp (maxSteps := 300000) (disch := omega) only [gs, gs2, gs3, gs4, ↓reduceIte, Nat.reduceEqDiff, Int.reduceToNat, Nat.reduceMul, Nat.reduceAdd, Nat.reduceBEq, isLd, e5], by simp (maxSteps := 300000) (disch := omega) only [gs, gs2, gs3, gs4, ↓reduceIte, Nat.reduceEqDiff, Int.reduceToNat, Nat.reduceMul, Nat.reduceAdd, Nat.reduceBEq, isLd, e6], by simp (maxSteps := 300000) (disch := omega) only [gs, gs2, gs3, gs4, ↓reduceIte, Nat.reduceEqDiff, Int.reduceToNat, Nat.reduceMul, Nat.reduceAdd, Nat.reduceBEq, isLd], by simp (maxSteps := 300000) (disch := omega) only [gs, gs2, gs3, gs4, ↓reduceIte, Nat.reduceEqDiff, Int.reduceToNat, Nat.reduceMul, Nat.reduceAdd, Nat.reduceBEq, isLd] <;> rfl, by omega, by omega, rfl, by simp⟩ ?_
    clear e0 e1 e4 e5 e6
    rintro m' T' G'' ⟨j, zz, e0, e1, e4, e5, e6, e7, e8, hm', hjl, rfl, hzz⟩
    simp (maxSteps := 300000) (disch := omega) only [gs, gs2, gs3, gs4, ↓reduceIte, Nat.reduceEqDiff, Int.reduceToNat, Nat.reduceMul, Nat.reduceAdd, Nat.reduceBEq, isLd, e0, e1, e4, e5, e6, e7, e8, q3.f1]
    by_cases hjj : (j : Int) < b.rows.length
    · have rj := q3.rows.r j (by omega)
      have hsB' := q3.rows.sn (by omega)
      cases zz
      · simp (maxSteps := 300000) (disch := omega) only [gs, gs2, gs3, gs4, ↓reduceIte, Nat.reduceEqDiff, Int.reduceToNat, Nat.reduceMul, Nat.reduceAdd, Nat.reduceBEq, isLd, e0, e1, e4, e5, e6, e7, e8, q2.f1, q3.f1, hjj, hkk, rk, rj]
        refine spec_l20Fit_ok q2 q3 (q2.rows.row k (by omega)) (q3.rows.row j (by omega)) ha.1 (by omega) (by omega) hxl (rb j (by omega)) (hb.2.2.2.1 j (by omega)).2 fun w hw => ?_
        simp (maxSteps := 300000) (disch := omega) only [gs, gs2, gs3, gs4, ↓reduceIte, Nat.reduceEqDiff, Int.reduceToNat, Nat.reduceMul, Nat.reduceAdd, Nat.reduceBEq, isLd, e0, e1, e4, e5, e6, e7, e8, q2.f1, q3.f1, hjj, hkk, rk, rj]
        refine ⟨m' - 1, by omega, _, Sub.refl _, j + 1, w, rfl, rfl, by omega, by omega, rfl, ?_⟩
        rw [hw, or_exists, ← hzz]; simp
      · simp (maxSteps := 300000) (disch := omega) only [gs, gs2, gs3, gs4, ↓reduceIte, Nat.reduceEqDiff, Int.reduceToNat, Nat.reduceMul, Nat.reduceAdd, Nat.reduceBEq, isLd, e0, e1, e4, e5, e6, e7, e8, hjj]
        refine ⟨m' - 1, by omega, _, Sub.refl _, j + 1, true, rfl, rfl, by omega, by omega, rfl, ?_⟩
        rw [or_exists, ← hzz]; simp
    · simp (maxSteps := 300000) (disch := omega) only [gs, gs2, gs3, gs4, ↓reduceIte, Nat.reduceEqDiff, Int.reduceToNat, Nat.reduceMul, Nat.reduceAdd, Nat.reduceBEq, isLd, e0, e1, e4, e5, e6, e7, e8, q3.f1, hjj]
      obtain rfl : j = b.rows.length := by omega
      rw [ex_rows (P := fun y => FitP a.cols b.cols (a.rows.getD k []) y)] at hzz
      have hzz' : zz = decide (∃ y ∈ b.rows, FitP a.cols b.cols (a.rows.getD k []) y) := Bool.eq_iff_iff.2 (by rw [hzz, decide_eq_true_eq])
      have htk := semi_take (a := a) (P := fun x => decide (∃ y ∈ b.rows, FitP a.cols b.cols x y)) (k := k) (by omega)
      rw [← hzz'] at htk
      clear hzz hzz'
      cases zz
      · rw [if_neg (by simp)] at htk
        simp (maxSteps := 300000) (disch := omega) only [gs, gs2, gs3, gs4, ↓reduceIte, Nat.reduceEqDiff, Int.reduceToNat, Nat.reduceMul, Nat.reduceAdd, Nat.reduceBEq, isLd, e0, e1, e4, e5, e6]
        exact ⟨m - 1, by omega, G'', Sub.refl _, k + 1, Z, z, hz, rfl, by omega, by omega, by rw [htk]; exact hX⟩
      · rw [if_pos rfl] at htk
        have f50 : rd G'' (some ⟨b5, 1, none⟩) = some (.slice Z ((a.rows.take k).filter fun x => decide (∃ y ∈ b.rows, FitP a.cols b.cols x y)).length z) := rd_sub hX.sub (rd_box _ _ _ 1 _ rfl)
        simp (maxSteps := 300000) (disch := omega) only [gs, gs2, gs3, gs4, ↓reduceIte, Nat.reduceEqDiff, Int.reduceToNat, Nat.reduceMul, Nat.reduceAdd, Nat.reduceBEq, isLd, e0, e1, e4, e5, e6, f50, q2.f1, rk, hkk]
        refine spec_l00Own_ok (q2.rows.row k (by omega)) (by omega) fun G8 D8 d8 hN8 => ?_
        have g50 := rd_sub hN8.sub f50
        have g1 := rd_sub hN8.sub q2.f1
        have g2 := rd_sub hN8.sub rk
        simp (maxSteps := 300000) (disch := omega) only [gs, gs2, gs3, gs4, ↓reduceIte, Nat.reduceEqDiff, Int.reduceToNat, Nat.reduceMul, Nat.reduceAdd, Nat.reduceBEq, isLd, e0, e1, e4, e5, e6, g50, g1, g2, gBs]
        refine ⟨by intro v hv; simp at hv; subst hv; rfl, fun bs hbs => ?_⟩
        have s9 := Sub.put hbs ⟨[.slice D8 (a.rows.getD k []).length d8], true⟩
        refine ⟨⟨rd_sub s9 g2, rd_sub s9 g1, rd_sub s9 g50⟩, ?_⟩
        have s79 := hN8.sub.trans s9
        have hDo : ∀ x, D8 = some x → G'' x.block = none := hN8.off
        refine SemG.add (hX.up s79) (hN8.fresh.sub s9) ((hN8.off.mono hX.sub).pute) (fun x y hx hy q => ?_) (fun i hi x y hx hy q => ?_) (put_same _ _ _) (by omega) fun G4 Z' z' s4 sH4 hst => ?_
        · have := own_ne hX.own.out y hy
          rw [← q, hDo x hx] at this; exact this rfl
        · have := own_ne (hX.own.row i hi) x hx
          rw [q, hDo y hy] at this; exact this rfl
        · have q4 := p2.sub sH4
          simp (maxSteps := 300000) (disch := omega) only [gs, gs2, gs3, gs4, ↓reduceIte, Nat.reduceEqDiff, Int.reduceToNat, Nat.reduceMul, Nat.reduceAdd, Nat.reduceBEq, isLd, e0, e1, e4, e5, e6, q4.f1, q4.rows.r k (by omega)]
          refine hst _ fun G5 hs5 hX5 => ?_
          simp (maxSteps := 300000) (disch := omega) only [gs, gs2, gs3, gs4, ↓reduceIte, Nat.reduceEqDiff, Int.reduceToNat, Nat.reduceMul, Nat.reduceAdd, Nat.reduceBEq, isLd, e0, e1, e4, e5, e6]
          exact ⟨m - 1, by omega, G5, Sub.refl _, k + 1, Z', z', hs5, rfl, by omega, by omega, by rw [htk]; exact hX5⟩
  · obtain rfl : k = a.rows.length := by omega
    rw [List.take_length] at hX
    have f50 : rd G' (some ⟨b5, 0, none⟩) = some (.slice A1 a.cols.length c1) := rd_sub hX.sub (rd_box _ _ _ 0 _ rfl)
    have f51 : rd G' (some ⟨b5, 1, none⟩) = some (.slice Z (a.rows.filter fun x => decide (∃ y ∈ b.rows, FitP a.cols b.cols x y)).length z) := rd_sub hX.sub (rd_box _ _ _ 1 _ rfl)
    simp (maxSteps := 300000) (disch := omega) only [gs, gs2, gs3, gs4, ↓reduceIte, Nat.reduceEqDiff, Int.reduceToNat, Nat.reduceMul, Nat.reduceAdd, Nat.reduceBEq, isLd, e0, e1, e4, e5, e6, q2.f1, hkk, f50, f51]
    refine st_many (vs := [.slice A1 a.cols.length c1, .slice Z (a.rows.filter fun x => decide (∃ y ∈ b.rows, FitP a.cols b.cols x y)).length z]) rfl (hX.low _ _ g4') rfl (by simp) (by intro v hv; simp at hv; rcases hv with rfl | rfl <;> rfl) ?_
    simp only [over, List.set_cons_zero, List.set_cons_succ]
    have k0 : rd (put G' b4 ⟨[.slice A1 a.cols.length c1, .slice Z (a.rows.filter fun x => decide (∃ y ∈ b.rows, FitP a.cols b.cols x y)).length z], true⟩) (some ⟨b4, 0, none⟩) = some (.slice A1 a.cols.length c1) := rd_box _ _ _ 0 _ rfl
    have k1 : rd (put G' b4 ⟨[.slice A1 a.cols.length c1, .slice Z (a.rows.filter fun x => decide (∃ y ∈ b.rows, FitP a.cols b.cols x y)).length z], true⟩) (some ⟨b4, 1, none⟩) = some (.slice Z (a.rows.filter fun x => decide (∃ y ∈ b.rows, FitP a.cols b.cols x y)).length z) := rd_box _ _ _ 1 _ rfl
    simp (maxSteps := 300000) (disch := omega) only [gs, gs2, gs3, gs4, ↓reduceIte, Nat.reduceEqDiff, Int.reduceToNat, Nat.reduceMul, Nat.reduceAdd, Nat.reduceBEq, isLd, e4, k0, k1]
    exact ⟨_, Sub.refl _, hk _ _ _ _ _ _ (hX.newT (N := semiT a b) sH hA1 oA1 ((sH.trans hX.low).skip hb4) (Oth.put _ _ _) n41 (fun x hx => by subst hx; rw [g4']; simp))⟩
theorem rise_pw {xs : List Int} : Rise xs ↔ xs.Pairwise (· < ·) := by
  constructor
  · intro h
    rw [List.pairwise_iff_getElem]
    intro i j hi hj hij
    have key : ∀ d, i + d + 1 < xs.length → xs.getD i 0 < xs.getD (i + d + 1) 0 := by
      intro d
      induction d with
      | zero => intro hd; exact h i hd
      | succ d ih => intro hd; exact Int.lt_trans (ih (by omega)) (h (i + d + 1) (by omega))
    have := key (j - i - 1) (by omega)
    rw [show i + (j - i - 1) + 1 = j by omega] at this
    simpa [List.getD, hi, hj] using this
  · intro h i hi
    have := List.pairwise_iff_getElem.1 h i (i + 1) (by omega) hi (by omega)
    simpa [List.getD, hi, show i < xs.length by omega] using this
theorem rise_idx {a : List Int} (h : Rise a) {i : Nat} (hi : i < a.length) : a.idxOf (a.getD i 0) = i := by
  have hp := rise_pw.1 h
  have hm : a.getD i 0 ∈ a := by simp [List.getD, hi]
  have hlt := List.idxOf_lt_length_iff.2 hm
  have he : a[a.idxOf (a.getD i 0)] = a.getD i 0 := List.getElem_idxOf hlt
  have hg : a.getD i 0 = a[i] := by simp [List.getD, hi]
  rw [List.pairwise_iff_getElem] at hp
  rcases Nat.lt_trichotomy (a.idxOf (a.getD i 0)) i with q | q | q
  · have := hp _ _ hlt hi q; omega
  · exact q
  · have := hp _ _ hi hlt q; omega
theorem row_ext {a x x' : List Int} (h : Rise a) (hx : x.length = a.length) (hx' : x'.length = a.length) (he : ∀ v ∈ a, cellAt a x v = cellAt a x' v) : x = x' := by
  apply List.ext_getElem (by omega)
  intro i h1 h2
  have := he (a.getD i 0) (by simp [List.getD, show i < a.length by omega])
  unfold cellAt at this
  rw [rise_idx h (by omega)] at this
  simpa [List.getD, h1, h2] using this
theorem tab_rows {t : Tab} (h : TabOk t) {x : List Int} (hx : x ∈ t.rows) : x.length = t.cols.length ∧ InB x 0 3 := by
  obtain ⟨i, hi, rfl⟩ := List.mem_iff_getElem.1 hx
  have := h.2.2.2.1 i hi
  rwa [show t.rows.getD i [] = t.rows[i] by simp [List.getD, hi]] at this
theorem tab_asc {t : Tab} (h : TabOk t) : Asc t.rows := by
  unfold Asc
  rw [List.pairwise_iff_getElem]
  intro i j hi hj hij
  have h5 := h.2.2.2.2
  have key : ∀ d, i + d + 1 < t.rows.length → lexC (t.rows.getD i []) (t.rows.getD (i + d + 1) []) < 0 := by
    intro d
    induction d with
    | zero => intro hd; exact h5 i (by omega)
    | succ d ih => intro hd; exact lexC_trans (ih (by omega)) (h5 (i + d + 1) (by omega))
  have := key (j - i - 1) (by omega)
  rw [show i + (j - i - 1) + 1 = j by omega] at this
  simpa [List.getD, hi, hj] using this
theorem laws_toInt64SS_new {G : GH} {A : Option Addr} {c : Nat} {hs : Nat → Option Addr × Nat} {xss : List (List Int)} (h : RowS G A c hs xss) (hsm : Sm xss) {K : Value → GH → Prop}
    (hk : ∀ A' hs' G', Sub G G' → OwnR (rest G G') A' xss.length hs' xss → K (.slice A' xss.length xss.length) G') : GC Try.prog 45 [.slice A xss.length c] G K := by
  refine c_laws_toInt64SS_i (by simp) ?_
  have hsn := h.sn
  obtain ⟨hs1, hs2⟩ := hsm
  simp (maxSteps := 300000) (disch := omega) only [gs, gs2, gs3, gs4, ↓reduceIte, Nat.reduceEqDiff, Int.reduceToNat, Nat.reduceMul, Nat.reduceAdd, Nat.reduceBEq, isLd]
  refine ⟨xss.length, xss.length, rfl, rfl, Nat.le_refl _, by omega, by omega, fun b hb => ?_⟩
  simp (maxSteps := 300000) (disch := omega) only [gs, gs2, gs3, gs4, ↓reduceIte, Nat.reduceEqDiff, Int.reduceToNat, Nat.reduceMul, Nat.reduceAdd, Nat.reduceBEq, isLd]
  refine gLoop_intro (fun m T G' => ∃ (k : Nat) (bs : Nat → Nat), T 0 = .slice A xss.length c ∧ T 3 = .slice (some ⟨b, 0, none⟩) xss.length xss.length ∧ T 4 = .int .i64 k ∧ m + k = xss.length ∧ k ≤ xss.length ∧ Sub G G' ∧
    G' b = some ⟨(List.range k).map (fun i => Value.slice (some ⟨bs i, 0, none⟩) (xss.getD i []).length (xss.getD i []).length) ++ List.replicate (xss.length - k) (.slice none 0 0), true⟩ ∧ (∀ i, i < k → bs i ≠ b ∧ G (bs i) = none ∧ G' (bs i) = some ⟨(xss.getD i []).map I64, true⟩) ∧ ∀ i j, i < k → j < k → i ≠ j → bs i ≠ bs j)
    xss.length ⟨0, fun _ => 0, by simp (maxSteps := 300000) (disch := omega) only [gs, gs2, gs3, gs4, ↓reduceIte, Nat.reduceEqDiff, Int.reduceToNat, Nat.reduceMul, Nat.reduceAdd, Nat.reduceBEq, isLd], by simp (maxSteps := 300000) (disch := omega) only [gs, gs2, gs3, gs4, ↓reduceIte, Nat.reduceEqDiff, Int.reduceToNat, Nat.reduceMul, Nat.reduceAdd, Nat.reduceBEq, isLd], by simp (maxSteps := 300000) (disch := omega) only [gs, gs2, gs3, gs4, ↓reduceIte, Nat.reduceEqDiff, Int.reduceToNat, Nat.reduceMul, Nat.reduceAdd, Nat.reduceBEq, isLd] <;> rfl, by omega, by omega, Sub.put hb _, by rw [put_same, zc_one]; simp, fun i hi => by omega, fun i j hi => by omega⟩ ?_
  rintro m T G' ⟨k, bs, e0, e3, e4, hm, hkl, hS, hB, hR, hI⟩
  have hh := h.sub hS
  have r := hh.r
  simp (maxSteps := 300000) (disch := omega) only [gs, gs2, gs3, gs4, ↓reduceIte, Nat.reduceEqDiff, Int.reduceToNat, Nat.reduceMul, Nat.reduceAdd, Nat.reduceBEq, isLd, e0, e3, e4]
  by_cases hkk : (k : Int) < xss.length
  · simp (maxSteps := 300000) (disch := omega) only [gs, gs2, gs3, gs4, ↓reduceIte, Nat.reduceEqDiff, Int.reduceToNat, Nat.reduceMul, Nat.reduceAdd, Nat.reduceBEq, isLd, e0, e3, e4, hkk, r]
    refine laws_toInt64S_ok (hh.row k (by omega)) (hs2 k (by omega)) fun b2 hb2 => ?_
    have n2 : b ≠ b2 := fun e => by rw [e, hb2] at hB; cases hB
    simp (maxSteps := 300000) (disch := omega) only [gs, gs2, gs3, gs4, ↓reduceIte, Nat.reduceEqDiff, Int.reduceToNat, Nat.reduceMul, Nat.reduceAdd, Nat.reduceBEq, isLd, e0, e3, e4]
    refine st_one (by rw [put_ne _ _ n2]; exact hB) (by simp; omega) rfl ?_
    simp (maxSteps := 300000) (disch := omega) only [gs, gs2, gs3, gs4, ↓reduceIte, Nat.reduceEqDiff, Int.reduceToNat, Nat.reduceMul, Nat.reduceAdd, Nat.reduceBEq, isLd, e0, e3, e4]
    refine ⟨m - 1, by omega, _, Sub.refl _, k + 1, fun i => if i = k then b2 else bs i, rfl, by omega, by omega, (hS.trans (Sub.put hb2 _)).skip hb, ?_, fun i hi => ?_, fun i j hi hj hij => ?_⟩
    · rw [put_same]
      congr 2
      rw [List.set_append_right _ _ (by simp)]
      simp only [List.length_map, List.length_range, Nat.sub_self]
      rw [show xss.length - k = (xss.length - (k + 1)) + 1 by omega, List.replicate_succ, List.set_cons_zero, List.range_succ, List.map_append, List.append_assoc]
      congr 1
      · exact List.map_congr_left fun i hi => by rw [if_neg (by have := List.mem_range.1 hi; omega)]
      · simp
    · dsimp only
      by_cases hik : i = k
      · subst hik
        rw [if_pos rfl]
        exact ⟨fun e => n2 e.symm, hS.none hb2, by rw [put_ne _ _ (fun e => n2 e.symm)]; exact put_same _ _ _⟩
      · rw [if_neg hik]
        obtain ⟨q1, q0, q2⟩ := hR i (by omega)
        have q3 : bs i ≠ b2 := fun e => by rw [e, hb2] at q2; cases q2
        exact ⟨q1, q0, by rw [put_ne _ _ q1, put_ne _ _ q3]; exact q2⟩
    · have nb : ∀ i, i < k → bs i ≠ b2 := fun i hi e => by have := (hR i hi).2.2; rw [e, hb2] at this; cases this
      by_cases ci : i = k
      · have cj : ¬ j = k := fun e => hij (ci.trans e.symm)
        simp only [if_pos ci, if_neg cj]
        exact (nb j (by omega)).symm
      · by_cases cj : j = k
        · simp only [if_neg ci, if_pos cj]; exact nb i (by omega)
        · simp only [if_neg ci, if_neg cj]; exact hI i j (by omega) (by omega) hij
  · simp (maxSteps := 300000) (disch := omega) only [gs, gs2, gs3, gs4, ↓reduceIte, Nat.reduceEqDiff, Int.reduceToNat, Nat.reduceMul, Nat.reduceAdd, Nat.reduceBEq, isLd, e0, e3, e4, hkk]
    obtain rfl : k = xss.length := by omega
    refine hk _ (fun i => (some ⟨bs i, 0, none⟩, (xss.getD i []).length)) _ hS ⟨?_, fun i hi => ?_, fun i hi a b' ha hb' => by cases ha; cases hb'; exact (hR i hi).1, fun i j hi hj hij a b' ha hb' => by cases ha; cases hb'; exact hI i j hi hj hij⟩
    · refine .inr ⟨b, [], rfl, ?_, by simp, by simp, Nat.le_refl _⟩
      rw [List.append_nil]
      have := rest_some.2 ⟨hb, hB⟩
      rw [Nat.sub_self, List.replicate_zero, List.append_nil] at this
      exact this
    · refine .inr ⟨bs i, [], rfl, ?_, by simp, by simp, Nat.le_refl _⟩
      rw [List.append_nil]
      exact rest_some.2 (hR i hi).2
theorem OwnR.offs {G G' : GH} {B : Option Addr} {d : Nat} {hs : Nat → Option Addr × Nat} {xss : List (List Int)} (h : OwnR (Gh.rest G G') B d hs xss) : Off G B ∧ ∀ i, i < xss.length → Off G (hs i).1 := by
  have key : ∀ {A : Option Addr} {c sz n : Nat} {cs : List Value}, Own (Gh.rest G G') A c cs sz n → Off G A := fun h a ha => by
    rcases h with ⟨h, _⟩ | ⟨b, r, h1, h2, _⟩
    · rw [h] at ha; cases ha
    · rw [h1] at ha; cases ha; exact (rest_some.1 h2).1
  exact ⟨key h.out, fun i hi => key (h.row i hi)⟩
theorem laws_toTable_new {G : GH} {N : Tab} {A B : Option Addr} {c d : Nat} {hs : Nat → Option Addr × Nat} (h : IntS G A c N.cols) (h' : RowS G B d hs N.rows) (hc : N.cols.length ≤ 2 ^ 20) (hsm : Sm N.rows) {K : Value → GH → Prop}
    (hk : ∀ A' B' hs' G', NewT G G' N A' N.cols.length B' N.rows.length hs' → K (tabV N A' N.cols.length B' N.rows.length) G') : GC Try.prog 17 [tabV N A c B d] G K := by
  refine c_laws_toTable_i (by simp) ?_
  unfold tabV tabC at *
  simp (maxSteps := 300000) (disch := omega) only [gs, gs2, gs3, gs4, ↓reduceIte, Nat.reduceEqDiff, Int.reduceToNat, Nat.reduceMul, Nat.reduceAdd, Nat.reduceBEq, isLd]
  intro b1 hb1
  simp (maxSteps := 300000) (disch := omega) only [gs, gs2, gs3, gs4, ↓reduceIte, Nat.reduceEqDiff, Int.reduceToNat, Nat.reduceMul, Nat.reduceAdd, Nat.reduceBEq, isLd]
  intro b2 hb2
  simp (maxSteps := 300000) (disch := omega) only [gs, gs2, gs3, gs4, ↓reduceIte, Nat.reduceEqDiff, Int.reduceToNat, Nat.reduceMul, Nat.reduceAdd, Nat.reduceBEq, isLd]
  intro b3 hb3
  simp only [put_none] at hb2 hb3
  obtain ⟨n12, f2⟩ := hb2
  obtain ⟨n23, n13, f3⟩ := hb3
  simp (maxSteps := 300000) (disch := omega) only [gs, gs2, gs3, gs4, ↓reduceIte, Nat.reduceEqDiff, Int.reduceToNat, Nat.reduceMul, Nat.reduceAdd, Nat.reduceBEq, isLd]
  have s3 := ((((Sub.refl G).skip hb1 (e := ⟨[.slice A N.cols.length c, .slice B N.rows.length d], true⟩)).skip f2 (e := ⟨[.slice none 0 0, .slice none 0 0], true⟩)).skip f3 (e := ⟨[.slice none 0 0, .slice none 0 0], true⟩))
  refine laws_toInt64S_ok (h.sub s3) hc fun b4 hb4 => ?_
  simp only [put_none] at hb4
  obtain ⟨n34, n24, n14, f4⟩ := hb4
  simp (maxSteps := 300000) (disch := omega) only [gs, gs2, gs3, gs4, ↓reduceIte, Nat.reduceEqDiff, Int.reduceToNat, Nat.reduceMul, Nat.reduceAdd, Nat.reduceBEq, isLd]
  refine st_one (by rw [put_ne _ _ (by omega)]; exact put_same _ _ _) (by simp) rfl ?_
  have s5 := ((s3.skip f4 (e := ⟨N.cols.map I64, true⟩)).skip f3 (e := ⟨[.slice (some ⟨b4, 0, none⟩) N.cols.length N.cols.length, .slice none 0 0], true⟩))
  simp (maxSteps := 300000) (disch := omega) only [gs, gs2, gs3, gs4, ↓reduceIte, Nat.reduceEqDiff, Int.reduceToNat, Nat.reduceMul, Nat.reduceAdd, Nat.reduceBEq, isLd]
  refine laws_toInt64SS_new (h'.sub s5) hsm fun B' hs' G' hS hR => ?_
  obtain ⟨oB, oR⟩ := hR.offs
  have g2 : (put (put (put (put (put G b1 ⟨[.slice A N.cols.length c, .slice B N.rows.length d], true⟩) b2 ⟨[.slice none 0 0, .slice none 0 0], true⟩) b3 ⟨[.slice none 0 0, .slice none 0 0], true⟩) b4 ⟨N.cols.map I64, true⟩) b3 ⟨[.slice (some ⟨b4, 0, none⟩) N.cols.length N.cols.length, .slice none 0 0], true⟩) b2 = some ⟨[.slice none 0 0, .slice none 0 0], true⟩ := by rw [put_ne _ _ (by omega), put_ne _ _ (by omega), put_ne _ _ (by omega)]; exact put_same _ _ _
  have g3 : (put (put (put (put (put G b1 ⟨[.slice A N.cols.length c, .slice B N.rows.length d], true⟩) b2 ⟨[.slice none 0 0, .slice none 0 0], true⟩) b3 ⟨[.slice none 0 0, .slice none 0 0], true⟩) b4 ⟨N.cols.map I64, true⟩) b3 ⟨[.slice (some ⟨b4, 0, none⟩) N.cols.length N.cols.length, .slice none 0 0], true⟩) b3 = some ⟨[.slice (some ⟨b4, 0, none⟩) N.cols.length N.cols.length, .slice none 0 0], true⟩ := put_same _ _ _
  have g4 : (put (put (put (put (put G b1 ⟨[.slice A N.cols.length c, .slice B N.rows.length d], true⟩) b2 ⟨[.slice none 0 0, .slice none 0 0], true⟩) b3 ⟨[.slice none 0 0, .slice none 0 0], true⟩) b4 ⟨N.cols.map I64, true⟩) b3 ⟨[.slice (some ⟨b4, 0, none⟩) N.cols.length N.cols.length, .slice none 0 0], true⟩) b4 = some ⟨N.cols.map I64, true⟩ := by rw [put_ne _ _ (by omega)]; exact put_same _ _ _
  have hR' := hR.sub (Sub.rest _ _)
  generalize (put (put (put (put (put G b1 ⟨[.slice A N.cols.length c, .slice B N.rows.length d], true⟩) b2 ⟨[.slice none 0 0, .slice none 0 0], true⟩) b3 ⟨[.slice none 0 0, .slice none 0 0], true⟩) b4 ⟨N.cols.map I64, true⟩) b3 ⟨[.slice (some ⟨b4, 0, none⟩) N.cols.length N.cols.length, .slice none 0 0], true⟩) = G5 at *
  simp (maxSteps := 300000) (disch := omega) only [gs, gs2, gs3, gs4, ↓reduceIte, Nat.reduceEqDiff, Int.reduceToNat, Nat.reduceMul, Nat.reduceAdd, Nat.reduceBEq, isLd]
  refine st_one (hS _ _ g3) (by simp) rfl ?_
  simp (maxSteps := 300000) (disch := omega) only [gs, gs2, gs3, gs4, ↓reduceIte, Nat.reduceEqDiff, Int.reduceToNat, Nat.reduceMul, Nat.reduceAdd, Nat.reduceBEq, isLd]
  refine st_many (vs := tabC N (some ⟨b4, 0, none⟩) N.cols.length B' N.rows.length) rfl (by rw [put_ne _ _ (by omega)]; exact hS _ _ g2) rfl (by simp) (tabC_one _ _ _ _ _) ?_
  simp (maxSteps := 300000) (disch := omega) only [gs, gs2, gs3, gs4, ↓reduceIte, Nat.reduceEqDiff, Int.reduceToNat, Nat.reduceMul, Nat.reduceAdd, Nat.reduceBEq, isLd, over, tabC]
  have kB : ∀ {A : Option Addr}, Off G5 A → ∀ a, A = some a → ¬ (a.block = b2 ∨ a.block = b3) := fun o a ha y => by
    have := o a ha
    rcases y with y | y
    · rw [y, g2] at this; cases this
    · rw [y, g3] at this; cases this
  have k4 : ∀ {A : Option Addr}, Off G5 A → ∀ (a b : Addr), (some ⟨b4, 0, none⟩ : Option Addr) = some a → A = some b → a.block ≠ b.block := fun o a b ha hb y => by
    cases ha
    have := o b hb
    rw [← y, g4] at this; cases this
  refine hk (some ⟨b4, 0, none⟩) B' hs' _ ⟨((s5.trans hS).skip f3).skip f2, ?_⟩
  have u : ∀ {e e' : Ent}, Oth (fun x => x = b2 ∨ x = b3) G' (put (put G' b3 e) b2 e') := fun {e e'} => ((Oth.put G' b3 e).mono fun x hx => .inr hx).trans ((Oth.put _ b2 e').mono fun x hx => .inl hx)
  refine ⟨Own.rest (Own.oth (G := G') (.inr ⟨b4, [], rfl, by rw [List.append_nil]; exact hS _ _ g4, by simp, by simp, Nat.le_refl _⟩) u fun a ha => by cases ha; show ¬ (b4 = b2 ∨ b4 = b3); omega) (fun a ha => by cases ha; exact f4), ?_, k4 oB, fun i hi => k4 (oR i hi)⟩
  exact (hR'.oth u (kB oB) fun i hi => kB (oR i hi)).rest (oB.mono s5) fun i hi => (oR i hi).mono s5
theorem laws_markInt64SS_ok {G : GH} {B : Option Addr} {d : Nat} {hs : Nat → Option Addr × Nat} {xss : List (List Int)} {k : Int} (h : OwnR G B d hs xss) (hsm : Sm xss) (hp : pre xss xss.length ≤ 2 ^ 30) (hk0 : 0 ≤ k ∧ k ≤ 2 ^ 30) {K : Value → GH → Prop}
    (hk : ∀ G', Oth (rowB hs xss.length) G G' → OwnR G' B d hs (mks k xss) → K (.int .i64 (k + pre xss xss.length)) G') : GC Try.prog 38 [.slice B xss.length d, .int .i64 k] G K := by
  refine c_laws_markInt64SS_i (by simp) ?_
  obtain ⟨hs1, hs2⟩ := hsm
  have pm : ∀ i, i ≤ xss.length → pre xss i ≤ pre xss xss.length := by
    intro i hi
    obtain ⟨e, he⟩ : ∃ e, xss.length = i + e := ⟨xss.length - i, by omega⟩
    rw [he]
    clear he hi
    induction e with
    | zero => exact Nat.le_refl _
    | succ e ih => exact Nat.le_trans ih (Nat.le_add_right _ _)
  simp (maxSteps := 300000) (disch := omega) only [gs, gs2, gs3, gs4, ↓reduceIte, Nat.reduceEqDiff, Int.reduceToNat, Nat.reduceMul, Nat.reduceAdd, Nat.reduceBEq, isLd]
  refine gLoop_intro (fun m T G' => ∃ i : Nat, T 0 = .slice B xss.length d ∧ T 1 = .int .i64 (k + pre xss i) ∧ T 5 = .int .i64 i ∧ m + i = xss.length ∧ i ≤ xss.length ∧ Oth (rowB hs xss.length) G G' ∧ OwnR G' B d hs (midR k xss i)) xss.length
    ⟨0, by simp (maxSteps := 300000) (disch := omega) only [gs, gs2, gs3, gs4, ↓reduceIte, Nat.reduceEqDiff, Int.reduceToNat, Nat.reduceMul, Nat.reduceAdd, Nat.reduceBEq, isLd], by simp (maxSteps := 300000) (disch := omega) only [gs, gs2, gs3, gs4, ↓reduceIte, Nat.reduceEqDiff, Int.reduceToNat, Nat.reduceMul, Nat.reduceAdd, Nat.reduceBEq, isLd] <;> simp [pre], by simp (maxSteps := 300000) (disch := omega) only [gs, gs2, gs3, gs4, ↓reduceIte, Nat.reduceEqDiff, Int.reduceToNat, Nat.reduceMul, Nat.reduceAdd, Nat.reduceBEq, isLd] <;> rfl, by omega, by omega, Oth.refl _ _, by rw [midR_zero]; exact h⟩ ?_
  rintro m T G' ⟨i, e0, e1, e5, hm, hil, hO, hW⟩
  simp (maxSteps := 300000) (disch := omega) only [gs, gs2, gs3, gs4, ↓reduceIte, Nat.reduceEqDiff, Int.reduceToNat, Nat.reduceMul, Nat.reduceAdd, Nat.reduceBEq, isLd, e0, e1, e5]
  by_cases hii : (i : Int) < xss.length
  · have hrow := hW.rows.r i (by rw [midR_len]; omega)
    have hsB := hW.rows.sn (by rw [midR_len]; omega)
    have hlen : ((midR k xss i).getD i []).length = (xss.getD i []).length := by rw [midR_get (by omega), if_neg (by omega)]
    rw [hlen] at hrow
    have hOwn := hW.row i (by rw [midR_len]; omega)
    rw [hlen] at hOwn
    simp (maxSteps := 300000) (disch := omega) only [gs, gs2, gs3, gs4, ↓reduceIte, Nat.reduceEqDiff, Int.reduceToNat, Nat.reduceMul, Nat.reduceAdd, Nat.reduceBEq, isLd, e0, e1, e5, hii, hrow]
    have h1 := pm i (by omega)
    have h2 := hs2 i (by omega)
    refine laws_markInt64S_ok hOwn (by omega) (by omega) fun G4 u hw => ?_
    simp (maxSteps := 300000) (disch := omega) only [gs, gs2, gs3, gs4, ↓reduceIte, Nat.reduceEqDiff, Int.reduceToNat, Nat.reduceMul, Nat.reduceAdd, Nat.reduceBEq, isLd, e0, e1, e5]
    have hp1 : pre xss (i + 1) = pre xss i + (xss.getD i []).length := rfl
    refine ⟨m - 1, by omega, G4, Sub.refl _, i + 1, by rw [hp1]; congr 1; omega, rfl, by omega, by omega, hO.trans (u.oth.mono fun x ⟨a, ha, hx⟩ => ⟨i, by omega, a, ha, hx⟩), ?_⟩
    refine hW.set (by rw [midR_len]; omega) u (by rw [midR_len, midR_len]) ?_ (fun j hj hji => ?_) ?_
    · rw [hlen, midR_get (by omega), if_pos (by omega), marks_len]
    · rw [midR_len] at hj
      rw [midR_get hj, midR_get hj]
      by_cases c : j < i
      · rw [if_pos c, if_pos (by omega)]
      · rw [if_neg c, if_neg (by omega)]
    · rw [midR_get (by omega), if_pos (by omega), marks_len]; exact hw
  · simp (maxSteps := 300000) (disch := omega) only [gs, gs2, gs3, gs4, ↓reduceIte, Nat.reduceEqDiff, Int.reduceToNat, Nat.reduceMul, Nat.reduceAdd, Nat.reduceBEq, isLd, e0, e1, e5, hii]
    obtain rfl : i = xss.length := by omega
    rw [midR_all] at hW
    exact hk G' hO hW
theorem laws_heldInt64SS_ok {G : GH} {B : Option Addr} {d : Nat} {hs : Nat → Option Addr × Nat} {xss : List (List Int)} {k : Int} (h : RowS G B d hs (mks k xss)) (hsm : Sm xss) (hp : pre xss xss.length ≤ 2 ^ 30) (hk0 : 0 ≤ k ∧ k ≤ 2 ^ 30) {K : Value → GH → Prop}
    (hk : K (.int .i64 (k + pre xss xss.length)) G) : GC Try.prog 40 [.slice B xss.length d, .int .i64 k] G K := by
  refine c_laws_heldInt64SS_i (by simp) ?_
  obtain ⟨hs1, hs2⟩ := hsm
  have pm : ∀ i, i ≤ xss.length → pre xss i ≤ pre xss xss.length := by
    intro i hi
    obtain ⟨e, he⟩ : ∃ e, xss.length = i + e := ⟨xss.length - i, by omega⟩
    rw [he]
    clear he hi
    induction e with
    | zero => exact Nat.le_refl _
    | succ e ih => exact Nat.le_trans ih (Nat.le_add_right _ _)
  simp (maxSteps := 300000) (disch := omega) only [gs, gs2, gs3, gs4, ↓reduceIte, Nat.reduceEqDiff, Int.reduceToNat, Nat.reduceMul, Nat.reduceAdd, Nat.reduceBEq, isLd]
  refine gLoop_intro (fun m T G' => ∃ i : Nat, T 0 = .slice B xss.length d ∧ T 1 = .int .i64 (k + pre xss i) ∧ T 5 = .int .i64 i ∧ m + i = xss.length ∧ i ≤ xss.length ∧ G' = G) xss.length
    ⟨0, by simp (maxSteps := 300000) (disch := omega) only [gs, gs2, gs3, gs4, ↓reduceIte, Nat.reduceEqDiff, Int.reduceToNat, Nat.reduceMul, Nat.reduceAdd, Nat.reduceBEq, isLd], by simp (maxSteps := 300000) (disch := omega) only [gs, gs2, gs3, gs4, ↓reduceIte, Nat.reduceEqDiff, Int.reduceToNat, Nat.reduceMul, Nat.reduceAdd, Nat.reduceBEq, isLd] <;> simp [pre], by simp (maxSteps := 300000) (disch := omega) only [gs, gs2, gs3, gs4, ↓reduceIte, Nat.reduceEqDiff, Int.reduceToNat, Nat.reduceMul, Nat.reduceAdd, Nat.reduceBEq, isLd] <;> rfl, by omega, by omega, rfl⟩ ?_
  rintro m T G' ⟨i, e0, e1, e5, hm, hil, rfl⟩
  simp (maxSteps := 300000) (disch := omega) only [gs, gs2, gs3, gs4, ↓reduceIte, Nat.reduceEqDiff, Int.reduceToNat, Nat.reduceMul, Nat.reduceAdd, Nat.reduceBEq, isLd, e0, e1, e5]
  by_cases hii : (i : Int) < xss.length
  · have hrow := h.r i (by rw [mks_len]; omega)
    have hsB := h.sn (by rw [mks_len]; omega)
    have hI := h.row i (by rw [mks_len]; omega)
    rw [mks_get (by omega)] at hrow hI
    rw [marks_len] at hrow
    simp (maxSteps := 300000) (disch := omega) only [gs, gs2, gs3, gs4, ↓reduceIte, Nat.reduceEqDiff, Int.reduceToNat, Nat.reduceMul, Nat.reduceAdd, Nat.reduceBEq, isLd, e0, e1, e5, hii, hrow]
    have h1 := pm i (by omega)
    have h2 := hs2 i (by omega)
    refine laws_heldInt64S_ok hI (by omega) (by omega) ?_
    have hp1 : pre xss (i + 1) = pre xss i + (xss.getD i []).length := rfl
    simp (maxSteps := 300000) (disch := omega) only [gs, gs2, gs3, gs4, ↓reduceIte, Nat.reduceEqDiff, Int.reduceToNat, Nat.reduceMul, Nat.reduceAdd, Nat.reduceBEq, isLd, e0, e1, e5, show (k + (pre xss i : Int) + ((xss.getD i []).length : Int) < 0) = False from eq_false (by omega)]
    exact ⟨m - 1, by omega, _, Sub.refl _, i + 1, by rw [hp1]; congr 1; omega, rfl, by omega, by omega, rfl⟩
  · simp (maxSteps := 300000) (disch := omega) only [gs, gs2, gs3, gs4, ↓reduceIte, Nat.reduceEqDiff, Int.reduceToNat, Nat.reduceMul, Nat.reduceAdd, Nat.reduceBEq, isLd, e0, e1, e5, hii]
    obtain rfl : i = xss.length := by omega
    exact hk
/-- a new table, and a new box that holds it. -/
structure BoxT (G G' : GH) (q : Nat) (N : Tab) (A : Option Addr) (c : Nat) (B : Option Addr) (d : Nat) (hs : Nat → Option Addr × Nat) : Prop where
  sub : Sub G G'
  own : OwnT (rest G G') N A c B d hs
  box : rest G G' q = some ⟨[.slice A N.cols.length c, .slice B N.rows.length d], true⟩
  nb : ¬ tabB A B hs N.rows.length q
theorem OwnT.rest {G G' : GH} {N : Tab} {A B : Option Addr} {c d : Nat} {hs : Nat → Option Addr × Nat} (h : OwnT G' N A c B d hs) (o : ∀ x, tabB A B hs N.rows.length x → G x = none) : OwnT (Gh.rest G G') N A c B d hs :=
  ⟨h.cols.rest fun a ha => o _ (.inl ⟨a, ha, rfl⟩), h.rows.rest (fun a ha => o _ (.inr (.inl ⟨a, ha, rfl⟩))) fun i hi a ha => o _ (.inr (.inr ⟨i, hi, a, ha, rfl⟩)), h.nB, h.nR⟩
theorem OwnT.oth {G G' : GH} {S : Nat → Prop} {N : Tab} {A B : Option Addr} {c d : Nat} {hs : Nat → Option Addr × Nat} (h : OwnT G N A c B d hs) (u : Oth S G G') (o : ∀ x, tabB A B hs N.rows.length x → ¬ S x) : OwnT G' N A c B d hs :=
  ⟨h.cols.oth u fun a ha => o _ (.inl ⟨a, ha, rfl⟩), h.rows.oth u (fun a ha => o _ (.inr (.inl ⟨a, ha, rfl⟩))) fun i hi a ha => o _ (.inr (.inr ⟨i, hi, a, ha, rfl⟩)), h.nB, h.nR⟩
/-- the box is laid behind the table. -/
theorem BoxT.mk1 {G G2 G3 : GH} {q : Nat} {N : Tab} {A B : Option Addr} {c d : Nat} {hs : Nat → Option Addr × Nat} (h : NewT G2 G3 N A c B d hs) (s : Sub G G2) (hb : G3 q = none) :
    BoxT G (put G3 q ⟨[.slice A N.cols.length c, .slice B N.rows.length d], true⟩) q N A c B d hs := by
  have hw := h.own.sub (Sub.rest _ _)
  refine ⟨(s.trans h.sub).trans (Sub.put hb _), (hw.sub (Sub.put hb _)).rest fun x hx => s.none (h.off x hx), rest_some.2 ⟨(s.trans h.sub).none hb, put_same _ _ _⟩, fun hx => hw.on q hx hb⟩
/-- the box is laid ahead of the table. -/
theorem BoxT.mk2 {G G1 G3 : GH} {q : Nat} {N : Tab} {A B : Option Addr} {c d : Nat} {hs : Nat → Option Addr × Nat} {e : Ent} (h : NewT G1 G3 N A c B d hs) (s : Sub G G1) (hb : G q = none) (hq : G1 q = some e) :
    BoxT G (put G3 q ⟨[.slice A N.cols.length c, .slice B N.rows.length d], true⟩) q N A c B d hs := by
  have hw := h.own.sub (Sub.rest _ _)
  have nq : ∀ x, tabB A B hs N.rows.length x → ¬ x = q := fun x hx y => by have := h.off x hx; rw [y, hq] at this; cases this
  exact ⟨(s.trans h.sub).skip hb, (hw.oth (Oth.put _ _ _) nq).rest fun x hx => s.none (h.off x hx), rest_some.2 ⟨hb, put_same _ _ _⟩, fun hx => nq q hx rfl⟩
def cellsT (H : Nat → TH) (ts : List Tab) : List Value := (List.range ts.length).flatMap fun i => tabC (ts.getD i t0) (H i).A (H i).c (H i).B (H i).d
theorem cellsF_len (f : Nat → List Value) (hf : ∀ i, (f i).length = 2) : ∀ n, ((List.range n).flatMap f).length = n * 2
  | 0 => rfl
  | n + 1 => by rw [List.range_succ, List.flatMap_append, List.length_append, cellsF_len f hf n]; simp [hf]; omega
theorem cellsF_get (f : Nat → List Value) (hf : ∀ i, (f i).length = 2) : ∀ n i k, i < n → k < 2 → ((List.range n).flatMap f)[i * 2 + k]? = (f i)[k]?
  | 0, i, k, h, _ => by omega
  | n + 1, i, k, h, hk => by
    rw [List.range_succ, List.flatMap_append]
    by_cases hin : i = n
    · subst hin
      rw [List.getElem?_append_right (by rw [cellsF_len f hf]; omega), cellsF_len f hf]
      simp only [List.flatMap_cons, List.flatMap_nil, List.append_nil]
      congr 1; omega
    · rw [List.getElem?_append_left (by rw [cellsF_len f hf]; omega)]
      exact cellsF_get f hf n i k (by omega) hk
theorem cellsT_len (H : Nat → TH) (ts : List Tab) : (cellsT H ts).length = ts.length * 2 := cellsF_len _ (fun _ => rfl) _
theorem cellsT_get {H : Nat → TH} {ts : List Tab} {i : Nat} (hi : i < ts.length) : (cellsT H ts)[i * 2]? = some (.slice (H i).A (ts.getD i t0).cols.length (H i).c) ∧ (cellsT H ts)[i * 2 + 1]? = some (.slice (H i).B (ts.getD i t0).rows.length (H i).d) :=
  ⟨cellsF_get _ (fun _ => rfl) _ i 0 hi (by omega), cellsF_get _ (fun _ => rfl) _ i 1 hi (by omega)⟩
theorem cellsT_at {H : Nat → TH} {ts : List Tab} {i k : Nat} (hi : i < ts.length) (hk : k < 2) : (cellsT H ts)[i * 2 + k]? = (tabC (ts.getD i t0) (H i).A (H i).c (H i).B (H i).d)[k]? := cellsF_get _ (fun _ => rfl) _ i k hi hk
theorem cellsT_snoc (H : Nat → TH) (ts : List Tab) (t : Tab) (h : TH) : cellsT (fun i => if i = ts.length then h else H i) (ts ++ [t]) = cellsT H ts ++ tabC t h.A h.c h.B h.d := by
  unfold cellsT
  rw [List.length_append, List.length_singleton, List.range_succ, List.flatMap_append]
  congr 1
  · refine flatMap_cong fun i hi => ?_
    have := List.mem_range.1 hi
    have hne : ¬ i = ts.length := by omega
    simp only [if_neg hne]
    congr 1
    simp [List.getD, List.getElem?_append_left this]
  · simp [List.getD]
theorem over_two {cs : List Value} {k : Nat} {x y : Value} : over cs k [x, y] = (cs.set k x).set (k + 1) y := rfl
theorem cellsT_set {H : Nat → TH} {ts : List Tab} {i : Nat} {t : Tab} {h : TH} {r : List Value} (hi : i < ts.length) :
    over (cellsT H ts ++ r) (i * 2) (tabC t h.A h.c h.B h.d) = cellsT (fun j => if j = i then h else H j) (ts.set i t) ++ r := by
  unfold tabC
  rw [over_two]
  have hl := cellsT_len H ts
  have hl' := cellsT_len (fun j => if j = i then h else H j) (ts.set i t)
  rw [List.length_set] at hl'
  rw [List.set_append_left _ _ (by omega), List.set_append_left _ _ (by rw [List.length_set]; omega)]
  congr 1
  apply List.ext_getElem?
  intro n
  by_cases hn : n < ts.length * 2
  · obtain ⟨j, k, hk, rfl⟩ : ∃ j k, k < 2 ∧ n = j * 2 + k := ⟨n / 2, n % 2, Nat.mod_lt _ (by omega), by omega⟩
    have hj : j < ts.length := by omega
    rw [cellsT_at (ts := ts.set i t) (by rw [List.length_set]; exact hj) hk]
    rw [List.getElem?_set, List.getElem?_set]
    simp only [List.length_set]
    by_cases hji : j = i
    · subst hji
      have : k = 0 ∨ k = 1 := by omega
      rcases this with rfl | rfl
      · rw [if_neg (by omega), if_pos (by omega), if_pos (by omega)]
        simp [tabC, List.getD, hj]
      · rw [if_pos (by omega), if_pos (by omega)]
        simp [tabC, List.getD, hj]
    · rw [if_neg (by omega), if_neg (by omega), cellsT_at hj hk]
      simp [hji, List.getD, List.getElem?_set, Ne.symm hji]
  · rw [List.getElem?_eq_none (by rw [List.length_set, List.length_set]; omega), List.getElem?_eq_none (by omega)]
def hB (h : TH) (n : Nat) : Nat → Prop := tabB h.A h.B h.hs n
structure OwnTS (G : GH) (A : Option Addr) (c : Nat) (H : Nat → TH) (ts : List Tab) : Prop where
  out : Own G A c (cellsT H ts) 2 ts.length
  tab : ∀ i, i < ts.length → OwnT G (ts.getD i t0) (H i).A (H i).c (H i).B (H i).d (H i).hs
  ne : ∀ i, i < ts.length → ∀ x, hB (H i) (ts.getD i t0).rows.length x → ∀ a, A = some a → x ≠ a.block
  inj : ∀ i j, i < ts.length → j < ts.length → i ≠ j → ∀ x, hB (H i) (ts.getD i t0).rows.length x → ¬ hB (H j) (ts.getD j t0).rows.length x
/-- the blocks of a list of tables. -/
def tsB (A : Option Addr) (H : Nat → TH) (ts : List Tab) : Nat → Prop := fun x => (∃ a, A = some a ∧ a.block = x) ∨ ∃ i, i < ts.length ∧ hB (H i) (ts.getD i t0).rows.length x
theorem OwnTS.sub {G G' : GH} {A : Option Addr} {c : Nat} {H : Nat → TH} {ts : List Tab} (h : OwnTS G A c H ts) (s : Sub G G') : OwnTS G' A c H ts := ⟨h.out.sub s, fun i hi => (h.tab i hi).sub s, h.ne, h.inj⟩
theorem OwnTS.tabs {G : GH} {A : Option Addr} {c : Nat} {H : Nat → TH} {ts : List Tab} (h : OwnTS G A c H ts) : TabsS G A c H ts :=
  ⟨h.out.cap, fun i hi => h.out.cells _ _ (cellsT_get hi).1, fun i hi => h.out.cells _ _ (cellsT_get hi).2, fun i hi => (h.tab i hi).cols.ints, fun i hi => (h.tab i hi).rows.rows⟩
theorem OwnTS.on {G : GH} {A : Option Addr} {c : Nat} {H : Nat → TH} {ts : List Tab} (h : OwnTS G A c H ts) : ∀ x, tsB A H ts x → G x ≠ none := by
  rintro x (⟨a, ha, rfl⟩ | ⟨i, hi, hx⟩)
  · exact own_ne h.out a ha
  · exact (h.tab i hi).on x hx
theorem OwnTS.oth {G G' : GH} {S : Nat → Prop} {A : Option Addr} {c : Nat} {H : Nat → TH} {ts : List Tab} (h : OwnTS G A c H ts) (u : Oth S G G') (o : ∀ x, tsB A H ts x → ¬ S x) : OwnTS G' A c H ts :=
  ⟨h.out.oth u fun a ha => o _ (.inl ⟨a, ha, rfl⟩), fun i hi => (h.tab i hi).oth u fun x hx => o x (.inr ⟨i, hi, hx⟩), h.ne, h.inj⟩
theorem OwnTS.rest {G G' : GH} {A : Option Addr} {c : Nat} {H : Nat → TH} {ts : List Tab} (h : OwnTS G' A c H ts) (o : ∀ x, tsB A H ts x → G x = none) : OwnTS (Gh.rest G G') A c H ts :=
  ⟨h.out.rest fun a ha => o _ (.inl ⟨a, ha, rfl⟩), fun i hi => (h.tab i hi).rest fun x hx => o x (.inr ⟨i, hi, hx⟩), h.ne, h.inj⟩
theorem OwnTS.nil (G : GH) (H : Nat → TH) : OwnTS G none 0 H [] := ⟨Own.nil _ _, fun i hi => by simp at hi, fun i hi => by simp at hi, fun i j hi => by simp at hi⟩
theorem OwnT.wz {G : GH} {Z : Option Addr} {N : Tab} {A B : Option Addr} {c d : Nat} {hs : Nat → Option Addr × Nat} (h : OwnT G N A c B d hs) (hne : ∀ x, tabB A B hs N.rows.length x → ∀ b, Z = some b → x ≠ b.block) : OwnT (Gh.wz G Z) N A c B d hs := by
  refine h.oth (S := fun x => Z.map (·.block) = some x) (fun x hx => ?_) fun x hx y => ?_
  · unfold Gh.wz; rw [if_neg hx]
  · cases Z with
    | none => cases y
    | some b => simp at y; exact hne x hx b rfl y.symm
/-- one more table is laid behind the others. -/
theorem OwnTS.snoc {G G' : GH} {Z Z' : Option Addr} {z z' : Nat} {H : Nat → TH} {ts : List Tab} {t : Tab} {hh : TH} (h : OwnTS G Z z H ts) (hx : OwnT G t hh.A hh.c hh.B hh.d hh.hs) (hZ : ∀ x, hB hh t.rows.length x → ∀ b, Z = some b → x ≠ b.block)
    (hR : ∀ i, i < ts.length → ∀ x, hB (H i) (ts.getD i t0).rows.length x → ¬ hB hh t.rows.length x) (s : Sub (wz G Z) G') (o : Off (wz G Z) Z')
    (hO : Own G' Z' z' (cellsT H ts ++ tabC t hh.A hh.c hh.B hh.d) 2 (ts.length + 1)) : OwnTS G' Z' z' (fun i => if i = ts.length then hh else H i) (ts ++ [t]) := by
  have hg : ∀ i, i < ts.length → (ts ++ [t]).getD i t0 = ts.getD i t0 := fun i hi => by simp [List.getD, List.getElem?_append_left hi]
  have hgl : (ts ++ [t]).getD ts.length t0 = t := by simp [List.getD]
  have hl : (ts ++ [t]).length = ts.length + 1 := by simp
  have offZ : ∀ {N : Tab} {A B : Option Addr} {c d : Nat} {hs : Nat → Option Addr × Nat}, OwnT G N A c B d hs → (∀ x, tabB A B hs N.rows.length x → ∀ b, Z = some b → x ≠ b.block) → ∀ x, tabB A B hs N.rows.length x → ∀ b, Z' = some b → x ≠ b.block := fun hA hn x hx b hb y => by
    have h1 := (hA.wz hn).on x hx
    have h2 := o b hb
    rw [← y] at h2; exact h1 h2
  refine ⟨by rw [cellsT_snoc, hl]; exact hO, fun i hi => ?_, fun i hi => ?_, fun i j hi hj => ?_⟩
  · rw [hl] at hi
    by_cases c : i = ts.length
    · subst c
      simp only [if_true]
      rw [hgl]
      exact (hx.wz hZ).sub s
    · simp only [if_neg c]
      rw [hg i (by omega)]
      exact ((h.tab i (by omega)).wz (h.ne i (by omega))).sub s
  · rw [hl] at hi
    by_cases c : i = ts.length
    · subst c
      simp only [if_true]
      rw [hgl]
      exact offZ hx hZ
    · simp only [if_neg c]
      rw [hg i (by omega)]
      exact offZ (h.tab i (by omega)) (h.ne i (by omega))
  · rw [hl] at hi hj
    intro hij
    by_cases ci : i = ts.length
    · subst ci
      have cj : ¬ j = ts.length := fun y => hij y.symm
      simp only [if_true, if_neg cj]
      rw [hgl, hg j (by omega)]
      exact fun x hx hy => hR j (by omega) x hy hx
    · by_cases cj : j = ts.length
      · subst cj
        simp only [if_true, if_neg ci]
        rw [hgl, hg i (by omega)]
        exact hR i (by omega)
      · simp only [if_neg ci, if_neg cj]
        rw [hg i (by omega), hg j (by omega)]
        exact h.inj i j (by omega) (by omega) hij
/-- a table takes another one's place. -/
theorem OwnTS.put {G : GH} {Z : Option Addr} {z i : Nat} {H : Nat → TH} {ts : List Tab} {t : Tab} {hh : TH} (h : OwnTS G Z z H ts) (hi : i < ts.length) (hx : OwnT G t hh.A hh.c hh.B hh.d hh.hs) (hZ : ∀ x, hB hh t.rows.length x → ∀ b, Z = some b → x ≠ b.block)
    (hR : ∀ j, j < ts.length → j ≠ i → ∀ x, hB (H j) (ts.getD j t0).rows.length x → ¬ hB hh t.rows.length x) {K : Value → GH → Prop}
    (hK : ∀ G', (∃ b, Z = some ⟨b, 0, none⟩ ∧ ∃ e, G' = Gh.put G b e) → OwnTS G' Z z (fun j => if j = i then hh else H j) (ts.set i t) → K undef G') :
    gSt 2 (.pointer (pa Z (i * 2))) (.agg [.slice hh.A t.cols.length hh.c, .slice hh.B t.rows.length hh.d].toArray) G K := by
  rcases h.out with ⟨_, _, hz, _⟩ | ⟨b, r, rfl, hb, hlen, hc, hnc⟩
  · omega
  have hcl := cellsT_len H ts
  rw [pa_mk, Nat.zero_add]
  have one2 : ∀ v ∈ tabC t hh.A hh.c hh.B hh.d, oneB v = true := tabC_one _ _ _ _ _
  refine ⟨b, i * 2, _, rfl, hb, rfl, by rw [List.length_append]; omega, one2, ?_⟩
  have ho := cellsT_set (H := H) (t := t) (h := hh) (r := r) hi
  unfold tabC at ho
  show K undef (Gh.put G b ⟨over (cellsT H ts ++ r) (i * 2) [.slice hh.A t.cols.length hh.c, .slice hh.B t.rows.length hh.d], true⟩)
  rw [ho]
  have hgi : (ts.set i t).getD i t0 = t := by simp [List.getD, hi]
  have hgj : ∀ j, j ≠ i → (ts.set i t).getD j t0 = ts.getD j t0 := fun j hj => by simp [List.getD, List.getElem?_set, Ne.symm hj]
  have u : Oth (fun x => x = b) G (Gh.put G b ⟨cellsT (fun j => if j = i then hh else H j) (ts.set i t) ++ r, true⟩) := Oth.put _ _ _
  have hcl' := cellsT_len (fun j => if j = i then hh else H j) (ts.set i t)
  rw [List.length_set] at hcl'
  refine hK _ ⟨b, rfl, _, rfl⟩ ⟨?_, fun j hj => ?_, fun j hj => ?_, fun j k hj hk hjk => ?_⟩
  · refine .inr ⟨b, r, rfl, put_same _ _ _, by rw [List.length_set]; exact hcl', ?_, by rw [List.length_set]; exact hnc⟩
    rw [List.length_append] at hc ⊢; omega
  · rw [List.length_set] at hj
    by_cases e : j = i
    · subst e
      simp only [if_true]
      rw [hgi]
      exact hx.oth u fun x hx' y => hZ x hx' _ rfl y
    · simp only [if_neg e]
      rw [hgj j e]
      exact (h.tab j hj).oth u fun x hx' y => h.ne j hj x hx' _ rfl y
  · rw [List.length_set] at hj
    by_cases e : j = i
    · subst e
      simp only [if_true]
      rw [hgi]
      exact hZ
    · simp only [if_neg e]
      rw [hgj j e]
      exact h.ne j hj
  · rw [List.length_set] at hj hk
    by_cases ej : j = i
    · subst ej
      have ek : ¬ k = j := fun y => hjk y.symm
      simp only [if_true, if_neg ek]
      rw [hgi, hgj k ek]
      exact fun x h1 h2 => hR k hk ek x h2 h1
    · by_cases ek : k = i
      · subst ek
        simp only [if_true, if_neg ej]
        rw [hgi, hgj j ej]
        exact hR j hj ej
      · simp only [if_neg ej, if_neg ek]
        rw [hgj j ej, hgj k ek]
        exact h.inj j k hj hk hjk
/-- one table is written over. -/
theorem OwnTS.over {G G' : GH} {A : Option Addr} {c i : Nat} {H : Nat → TH} {ts us : List Tab} (h : OwnTS G A c H ts) (hi : i < ts.length) (u : Oth (hB (H i) (ts.getD i t0).rows.length) G G') (hl : us.length = ts.length)
    (hc : (us.getD i t0).cols.length = (ts.getD i t0).cols.length) (hr : (us.getD i t0).rows.length = (ts.getD i t0).rows.length) (ho : ∀ j, j < ts.length → j ≠ i → us.getD j t0 = ts.getD j t0) (hw : OwnT G' (us.getD i t0) (H i).A (H i).c (H i).B (H i).d (H i).hs) : OwnTS G' A c H us := by
  have hn : ∀ j, j < ts.length → (us.getD j t0).rows.length = (ts.getD j t0).rows.length := fun j hj => by
    by_cases e : j = i
    · subst e; exact hr
    · rw [ho j hj e]
  refine ⟨?_, fun j hj => ?_, fun j hj => ?_, fun j k hj hk => ?_⟩
  · have e : cellsT H us = cellsT H ts := by
      unfold cellsT
      rw [hl]
      refine flatMap_cong fun j hj => ?_
      have hj := List.mem_range.1 hj
      by_cases e : j = i
      · subst e; unfold tabC; rw [hc, hr]
      · rw [ho j hj e]
    rw [e, hl]
    exact h.out.oth u fun b hb y => h.ne i hi _ y b hb rfl
  · rw [hl] at hj
    by_cases e : j = i
    · subst e; exact hw
    · rw [ho j hj e]
      exact (h.tab j hj).oth u fun x hx => h.inj j i hj hi e x hx
  · rw [hl] at hj
    rw [hn j hj]
    exact h.ne j hj
  · rw [hl] at hj hk
    rw [hn j hj, hn k hk]
    exact h.inj j k hj hk
/-- a new list of tables. -/
structure NewTS (G G' : GH) (A : Option Addr) (c : Nat) (H : Nat → TH) (ts : List Tab) : Prop where
  sub : Sub G G'
  own : OwnTS (rest G G') A c H ts
theorem NewTS.off {G G' : GH} {A : Option Addr} {c : Nat} {H : Nat → TH} {ts : List Tab} (h : NewTS G G' A c H ts) : ∀ x, tsB A H ts x → G x = none ∧ G' x ≠ none := fun x hx => by
  have := h.own.on x hx
  cases hr : Gh.rest G G' x with
  | none => exact absurd hr this
  | some e => obtain ⟨h1, h2⟩ := rest_some.1 hr; exact ⟨h1, by rw [h2]; simp⟩
theorem NewTS.nil (G : GH) (H : Nat → TH) : NewTS G G none 0 H [] := ⟨Sub.refl _, OwnTS.nil _ _⟩
theorem NewTS.mk' {G G' : GH} {A : Option Addr} {c : Nat} {H : Nat → TH} {ts : List Tab} (s : Sub G G') (h : OwnTS G' A c H ts) (o : ∀ x, tsB A H ts x → G x = none) : NewTS G G' A c H ts := ⟨s, h.rest o⟩
theorem NewTS.fresh {G G' : GH} {A : Option Addr} {c : Nat} {H : Nat → TH} {ts : List Tab} (h : NewTS G G' A c H ts) : OwnTS G' A c H ts := h.own.sub (Sub.rest _ _)
theorem impl_copyLists_ok {G : GH} {A : Option Addr} {c : Nat} {hs : Nat → Option Addr × Nat} {xss : List (List Int)} (h : RowS G A c hs xss) (hl : xss.length < 2 ^ 20) (hl2 : ∀ i, i < xss.length → (xss.getD i []).length < 2 ^ 30) {K : Value → GH → Prop}
    (hk : ∀ G' Z z hs', Sub G G' → OwnR (rest G G') Z z hs' xss → K (.slice Z xss.length z) G') : GC Try.prog 36 [.slice A xss.length c] G K := by
  refine c_impl_copyLists_i (by simp) ?_
  have hsn := h.sn
  simp (maxSteps := 300000) (disch := omega) only [gs, gs2, gs3, gs4, ↓reduceIte, Nat.reduceEqDiff, Int.reduceToNat, Nat.reduceMul, Nat.reduceAdd, Nat.reduceBEq, isLd]
  refine gLoop_intro (fun m T G' => ∃ (k : Nat) (Z : Option Addr) (z : Nat) (hz : Nat → Option Addr × Nat), T 3 = .slice Z k z ∧ T 6 = .slice A xss.length c ∧ T 7 = .int .i64 xss.length ∧ T 8 = .int .i64 k ∧ m + k = xss.length ∧ k ≤ xss.length ∧ Sub G G' ∧ Off G Z ∧ (∀ i, i < k → Off G (hz i).1) ∧ OwnR G' Z z hz (xss.take k)) xss.length
    ⟨0, none, 0, fun _ => (none, 0), by simp (maxSteps := 300000) (disch := omega) only [gs, gs2, gs3, gs4, ↓reduceIte, Nat.reduceEqDiff, Int.reduceToNat, Nat.reduceMul, Nat.reduceAdd, Nat.reduceBEq, isLd] <;> rfl, by simp (maxSteps := 300000) (disch := omega) only [gs, gs2, gs3, gs4, ↓reduceIte, Nat.reduceEqDiff, Int.reduceToNat, Nat.reduceMul, Nat.reduceAdd, Nat.reduceBEq, isLd], by simp (maxSteps := 300000) (disch := omega) only [gs, gs2, gs3, gs4, ↓reduceIte, Nat.reduceEqDiff, Int.reduceToNat, Nat.reduceMul, Nat.reduceAdd, Nat.reduceBEq, isLd], by simp (maxSteps := 300000) (disch := omega) only [gs, gs2, gs3, gs4, ↓reduceIte, Nat.reduceEqDiff, Int.reduceToNat, Nat.reduceMul, Nat.reduceAdd, Nat.reduceBEq, isLd] <;> rfl, by omega, by omega, Sub.refl _, Off.nil _, fun i hi => by omega, OwnR.nil _ _⟩ ?_
  rintro m T G' ⟨k, Z, z, hz, e3, e6, e7, e8, hm, hkl, hS, hO, hOR, hW⟩
  simp (maxSteps := 300000) (disch := omega) only [gs, gs2, gs3, gs4, ↓reduceIte, Nat.reduceEqDiff, Int.reduceToNat, Nat.reduceMul, Nat.reduceAdd, Nat.reduceBEq, isLd, e3, e6, e7, e8]
  by_cases hkk : (k : Int) < xss.length
  · have hh := h.sub hS
    have rk := hh.r k (by omega)
    have hlt : (xss.take k).length = k := by rw [List.length_take]; omega
    simp (maxSteps := 300000) (disch := omega) only [gs, gs2, gs3, gs4, ↓reduceIte, Nat.reduceEqDiff, Int.reduceToNat, Nat.reduceMul, Nat.reduceAdd, Nat.reduceBEq, isLd, e3, e6, e7, e8, hkk, rk]
    refine slices_Clone_ok (hh.row k (by omega)) (hl2 k (by omega)) fun G8 D d hN => ?_
    simp (maxSteps := 300000) (disch := omega) only [gs, gs2, gs3, gs4, ↓reduceIte, Nat.reduceEqDiff, Int.reduceToNat, Nat.reduceMul, Nat.reduceAdd, Nat.reduceBEq, isLd, e3, e6, e7, e8, gBs]
    refine ⟨fun v hv => (by simp at hv; subst hv; rfl), fun bs hbs => ?_⟩
    have sy := Sub.put hbs ⟨[.slice D (xss.getD k []).length d], true⟩
    have s9 := hN.sub.trans sy
    have hW9 := hW.sub s9
    have hO9 := hW9.out
    rw [hlt] at hO9
    refine ap_own hO9 (news := [.slice D (xss.getD k []).length d]) (m := 1) (cells_one _ true) rfl (by intro v hv; simp at hv; subst hv; rfl) rfl (by omega) (by omega) (by omega) fun G4 Z' z' hO4 keep => ?_
    obtain ⟨s4, o4⟩ := keep _ (Sub.wz _ Z) (Off.wz _ Z)
    obtain ⟨sG, oG⟩ := keep G (hS.trans s9) hO
    have hDo : ∀ x, D = some x → G' x.block = none := hN.off
    have hR := hW9.snoc (x := xss.getD k []) (hN.fresh.sub sy) (fun x y hx hy q => by
      have := own_ne hW.out y hy
      rw [← q, hDo x hx] at this; exact this rfl) (fun i hi x y hx hy q => by
      have := own_ne (hW.row i hi) x hx
      rw [q, hDo y hy] at this; exact this rfl) s4 o4 (by rw [hlt]; exact hO4)
    rw [hlt, ← takeL (by omega)] at hR
    simp (maxSteps := 300000) (disch := omega) only [gs, gs2, gs3, gs4, ↓reduceIte, Nat.reduceEqDiff, Int.reduceToNat, Nat.reduceMul, Nat.reduceAdd, Nat.reduceBEq, isLd, e3, e6, e7, e8]
    refine ⟨m - 1, by omega, G4, Sub.refl _, k + 1, Z', z', _, rfl, rfl, by omega, by omega, sG, oG, fun i hi => ?_, hR⟩
    by_cases q : i = k
    · simp only [if_pos q]; exact hN.off.mono hS
    · simp only [if_neg q]; exact hOR i (by omega)
  · simp (maxSteps := 300000) (disch := omega) only [gs, gs2, gs3, gs4, ↓reduceIte, Nat.reduceEqDiff, Int.reduceToNat, Nat.reduceMul, Nat.reduceAdd, Nat.reduceBEq, isLd, e3, e6, e7, e8, hkk]
    obtain rfl : k = xss.length := by omega
    rw [List.take_length] at hW
    exact hk _ _ _ _ hS (hW.rest hO hOR)
theorem prj_self {cs row : List Int} (h : Rise cs) (hl : row.length = cs.length) : prj cs cs row = row := by
  refine row_ext h (by rw [prj_len]) hl fun v hv => ?_
  unfold prj cellAt
  have hlt := List.idxOf_lt_length_iff.2 hv
  have : (cs.map fun c => row.getD (cs.idxOf c) 0).getD (cs.idxOf v) 0 = row.getD (cs.idxOf (cs[cs.idxOf v])) 0 := by simp [List.getD, hlt]
  rw [this, List.getElem_idxOf hlt]
theorem projT_self {t : Tab} (h : TabOk t) : projT t t.cols = t := by
  have hm : t.rows.map (prj t.cols t.cols) = t.rows := by
    conv => rhs; rw [← List.map_id t.rows]
    exact List.map_congr_left fun r hr => prj_self h.1 (tab_rows h hr).1
  unfold projT
  rw [hm, ← srt_eq (tab_asc h) fun z => Iff.rfl]
theorem asc_tab {cs : List Int} {rs : List (List Int)} (hc : Rise cs) (hb : InB cs 0 7) (hn : rs.length ≤ 24) (hr : ∀ r ∈ rs, r.length = cs.length ∧ InB r 0 3) (ha : Asc rs) : TabOk ⟨cs, rs⟩ := by
  refine ⟨hc, hb, hn, fun i hi => hr _ (by have hi : i < rs.length := hi; simp [List.getD, hi]), fun i hi => ?_⟩
  have hi : i + 1 < rs.length := hi
  have := List.pairwise_iff_getElem.1 ha i (i + 1) (by omega) hi (by omega)
  show lexC (rs.getD i []) (rs.getD (i + 1) []) < 0
  simpa [List.getD, hi, show i < rs.length by omega] using this
theorem semi_ok {a b : Tab} (h : TabOk a) : TabOk (semiT a b) := by
  obtain ⟨hr, hc, hn⟩ := h.rowL
  have hm : ∀ r ∈ semiR a b, r ∈ a.rows := fun r hr => by unfold semiR at hr; exact (List.mem_filter.1 hr).1
  refine asc_tab h.1 h.2.1 ?_ (fun r hr => tab_rows h (hm r hr)) ?_
  · unfold semiR
    exact Nat.le_trans (List.length_filter_le _ _) hn
  · unfold semiR
    exact (tab_asc h).filter _
noncomputable def stepS (i j : Nat) (s : List Tab × Bool) : List Tab × Bool :=
  if (semiT (s.1.getD i t0) (s.1.getD j t0)).rows.length < (s.1.getD i t0).rows.length then (s.1.set i (semiT (s.1.getD i t0) (s.1.getD j t0)), true) else s
noncomputable def innS (i : Nat) (s : List Tab × Bool) : Nat → List Tab × Bool
  | 0 => s
  | m + 1 => stepS i m (innS i s m)
noncomputable def pasS (n : Nat) (s : List Tab × Bool) : Nat → List Tab × Bool
  | 0 => s
  | m + 1 => innS m (pasS n s m) n
noncomputable def pass (ts : List Tab) : List Tab × Bool := pasS ts.length (ts, false) ts.length
def tot (ts : List Tab) : Nat := (ts.map fun t => t.rows.length).sum
noncomputable def redF : Nat → List Tab → List Tab
  | 0, ts => ts
  | f + 1, ts => if (pass ts).2 = true then redF f (pass ts).1 else ts
noncomputable def redR (ts : List Tab) : List Tab := redF (tot ts + 1) ts
open Classical in
noncomputable def redV (ts : List Tab) : List Tab × Int := if TabsOk ts then (redR ts, 0) else ([], 1)
theorem redV_no {ts : List Tab} (h : ¬ TabsOk ts) : redV ts = ([], 1) := by unfold redV; rw [if_neg h]
theorem redV_yes {ts : List Tab} (h : TabsOk ts) : redV ts = (redR ts, 0) := by unfold redV; rw [if_pos h]
theorem tot_set : ∀ {ts : List Tab} {i : Nat} {t : Tab}, i < ts.length → tot (ts.set i t) + (ts.getD i t0).rows.length = tot ts + t.rows.length
  | [], i, t, h => by simp at h
  | u :: ts, 0, t, _ => by simp [tot]; omega
  | u :: ts, i + 1, t, h => by
    have := tot_set (ts := ts) (i := i) (t := t) (by simpa using h)
    simp only [tot, List.set_cons_succ, List.map_cons, List.sum_cons, List.getD_cons_succ] at this ⊢
    omega
/-- what holds of a state on the way. -/
structure RedS (ts : List Tab) (s : List Tab × Bool) : Prop where
  len : s.1.length = ts.length
  ok : ∀ i, i < s.1.length → TabOk (s.1.getD i t0)
  le : tot s.1 ≤ tot ts
  lt : s.2 = true → tot s.1 < tot ts
  eq : s.2 = false → s.1 = ts
  rows : ∀ i, i < s.1.length → (s.1.getD i t0).rows.length ≤ (ts.getD i t0).rows.length
theorem set_get {ts : List Tab} {i j : Nat} {t : Tab} (hi : i < ts.length) : (ts.set i t).getD j t0 = if j = i then t else ts.getD j t0 := by
  by_cases h : j = i
  · subst h; simp [List.getD, hi]
  · rw [if_neg h]; simp [List.getD, List.getElem?_set, Ne.symm h]
theorem RedS.step {ts : List Tab} {s : List Tab × Bool} (h : RedS ts s) {i j : Nat} (hi : i < ts.length) (hj : j < ts.length) : RedS ts (stepS i j s) := by
  unfold stepS
  have hl := h.len
  split
  · next hlt =>
    have ht := tot_set (ts := s.1) (i := i) (t := semiT (s.1.getD i t0) (s.1.getD j t0)) (by omega)
    have hle := h.le
    refine ⟨by rw [List.length_set]; exact h.len, fun k hk => ?_, ?_, fun _ => ?_, fun y => (by cases y), fun k hk => ?_⟩
    · rw [List.length_set] at hk
      show TabOk ((s.1.set i _).getD k t0)
      rw [set_get (by omega)]
      split
      · exact semi_ok (h.ok i (by omega))
      · exact h.ok k hk
    · show tot (s.1.set i _) ≤ _; omega
    · show tot (s.1.set i _) < _; omega
    · rw [List.length_set] at hk
      show ((s.1.set i _).getD k t0).rows.length ≤ _
      rw [set_get (by omega)]
      split
      · next e => subst e; have := h.rows k hk; omega
      · exact h.rows k hk
  · exact h
theorem RedS.inn {ts : List Tab} {s : List Tab × Bool} (h : RedS ts s) {i : Nat} (hi : i < ts.length) : ∀ m, m ≤ ts.length → RedS ts (innS i s m)
  | 0, _ => h
  | m + 1, hm => (RedS.inn h hi m (by omega)).step hi (by omega)
theorem RedS.pas {ts : List Tab} {s : List Tab × Bool} (h : RedS ts s) : ∀ m, m ≤ ts.length → RedS ts (pasS ts.length s m)
  | 0, _ => h
  | m + 1, hm => (RedS.pas h m (by omega)).inn (by omega) _ (Nat.le_refl _)
def TsV (ts : List Tab) : Prop := ∀ i, i < ts.length → TabOk (ts.getD i t0)
theorem RedS.start {ts : List Tab} (h : TsV ts) : RedS ts (ts, false) := ⟨rfl, h, Nat.le_refl _, fun y => (by cases y), fun _ => rfl, fun _ _ => Nat.le_refl _⟩
theorem RedS.pass {ts : List Tab} (h : TsV ts) : RedS ts (Gh.pass ts) := (RedS.start h).pas _ (Nat.le_refl _)
theorem redF_eq : ∀ (f f' : Nat) (ts : List Tab), TsV ts → tot ts < f → tot ts < f' → redF f ts = redF f' ts
  | 0, f', ts, _, h, _ => by omega
  | f + 1, 0, ts, _, _, h => by omega
  | f + 1, f' + 1, ts, hv, h, h' => by
    rw [redF, redF]
    split
    · next hc =>
      have hp := RedS.pass hv
      have := hp.lt hc
      exact redF_eq f f' _ hp.ok (by omega) (by omega)
    · rfl
theorem redR_yes {ts : List Tab} (h : TsV ts) (hc : (pass ts).2 = true) : redR ts = redR (pass ts).1 := by
  have hp := RedS.pass h
  have := hp.lt hc
  unfold redR
  rw [redF, if_pos hc]
  exact redF_eq _ _ _ hp.ok (by omega) (by omega)
theorem redR_no {ts : List Tab} (h : TsV ts) (hc : (pass ts).2 = false) : redR ts = (pass ts).1 := by
  unfold redR
  rw [redF, if_neg (by rw [hc]; simp), (RedS.pass h).eq hc]
theorem redR_spec : ∀ (n : Nat) (ts : List Tab), tot ts < n → TsV ts → (redR ts).length = ts.length ∧ TsV (redR ts) ∧ (pass (redR ts)).2 = false ∧ ∀ i, i < ts.length → ((redR ts).getD i t0).rows.length ≤ (ts.getD i t0).rows.length
  | 0, _, h, _ => by omega
  | n + 1, ts, h, hv => by
    have hp := RedS.pass hv
    cases hc : (pass ts).2 with
    | false =>
      rw [redR_no hv hc, hp.eq hc]
      exact ⟨rfl, hv, hc, fun _ _ => Nat.le_refl _⟩
    | true =>
      have := hp.lt hc
      obtain ⟨h1, h2, h3, h4⟩ := redR_spec n (pass ts).1 (by omega) hp.ok
      rw [redR_yes hv hc]
      refine ⟨h1.trans hp.len, h2, h3, fun i hi => ?_⟩
      have := h4 i (by rw [hp.len]; exact hi)
      have := hp.rows i (by rw [hp.len]; exact hi)
      omega
theorem TabsOk.v {ts : List Tab} (h : TabsOk ts) : TsV ts := h.2
theorem redR_ok {ts : List Tab} (h : TabsOk ts) : TabsOk (redR ts) := by
  obtain ⟨h1, h2, _⟩ := redR_spec _ ts (Nat.lt_succ_self _) h.v
  exact ⟨by rw [h1]; exact h.1, h2⟩
theorem TabP.g1 {G : GH} {q : Nat} {N : Tab} {A B : Option Addr} {c d : Nat} {hs : Nat → Option Addr × Nat} (h : TabP G (some ⟨q, 0, none⟩) N A c B d hs) : Gh.rd G (some ⟨q, 1, none⟩) = some (.slice B N.rows.length d) := by
  have := h.f1; rwa [pa_mk] at this
theorem BoxT.p {G G' : GH} {q : Nat} {N : Tab} {A B : Option Addr} {c d : Nat} {hs : Nat → Option Addr × Nat} (h : BoxT G G' q N A c B d hs) : TabP (rest G G') (some ⟨q, 0, none⟩) N A c B d hs :=
  ⟨by simp only [rd, h.box]; rfl, by rw [pa_mk]; simp only [rd, h.box]; rfl, h.own.cols.ints, h.own.rows.rows⟩
theorem BoxT.off {G G' : GH} {q : Nat} {N : Tab} {A B : Option Addr} {c d : Nat} {hs : Nat → Option Addr × Nat} (h : BoxT G G' q N A c B d hs) : ∀ x, tabB A B hs N.rows.length x → G x = none ∧ G' x ≠ none := fun x hx => by
  have := h.own.on x hx
  cases hr : rest G G' x with
  | none => exact absurd hr this
  | some e => obtain ⟨h1, h2⟩ := rest_some.1 hr; exact ⟨h1, by rw [h2]; simp⟩
theorem rest_no {G G' : GH} {x : Nat} (h : G x ≠ none) : rest G G' x = none := by
  cases hr : rest G G' x with
  | none => rfl
  | some e => exact absurd (rest_some.1 hr).1 h
/-- a small table. -/
def TSm (N : Tab) : Prop := N.cols.length ≤ 2 ^ 20 ∧ Sm N.rows ∧ pre N.rows N.rows.length ≤ 2 ^ 20
/-- the tables made so far: in blocks that G does not know. -/
structure RInv (G G' : GH) (Z : Option Addr) (z : Nat) (H : Nat → TH) (us : List Tab) : Prop where
  sub : Sub G G'
  own : OwnTS G' Z z H us
  off : ∀ x, tsB Z H us x → G x = none
theorem RInv.up {G G' G'' : GH} {Z : Option Addr} {z : Nat} {H : Nat → TH} {us : List Tab} (h : RInv G G' Z z H us) (s : Sub G' G'') : RInv G G'' Z z H us := ⟨h.sub.trans s, h.own.sub s, h.off⟩
theorem RInv.new {G G' : GH} {Z : Option Addr} {z : Nat} {H : Nat → TH} {us : List Tab} (h : RInv G G' Z z H us) : NewTS G G' Z z H us := NewTS.mk' h.sub h.own h.off
theorem take_snocT {ts : List Tab} {k : Nat} (h : k < ts.length) : ts.take (k + 1) = ts.take k ++ [ts.getD k t0] := by
  rw [List.take_succ_eq_append_getElem h]; simp [List.getD, h]
theorem RInv.offZ {G G' : GH} {Z : Option Addr} {z : Nat} {H : Nat → TH} {us : List Tab} (h : RInv G G' Z z H us) : Off G Z := fun a ha => h.off _ (.inl ⟨a, ha, rfl⟩)
theorem RInv.add {G G' G9 : GH} {Z : Option Addr} {z bb : Nat} {H : Nat → TH} {us : List Tab} {t : Tab} {hh : TH} (h : RInv G G' Z z H us) (hN : NewT G' G9 t hh.A hh.c hh.B hh.d hh.hs) {G10 : GH} (s10 : Sub G9 G10) (hb : G10 bb = some ⟨tabC t hh.A hh.c hh.B hh.d, true⟩) (hl : us.length < 2 ^ 20) {K : Value → GH → Prop}
    (hK : ∀ G4 Z' z', Sub G G4 → Sub (wz G10 Z) G4 → RInv G G4 Z' z' (fun i => if i = us.length then hh else H i) (us ++ [t]) → K (.slice Z' (us.length + 1) z') G4) :
    gAp 2 48 [.slice none 0 0, .slice none 0 0] (.slice Z us.length z) (.slice (some ⟨bb, 0, none⟩) 1 1) G10 K := by
  have s9 := hN.sub.trans s10
  have hW := h.own.sub s9
  have one2 : ∀ v ∈ tabC t hh.A hh.c hh.B hh.d, oneB v = true := tabC_one _ _ _ _ _
  refine ap_own hW.out (news := tabC t hh.A hh.c hh.B hh.d) (m := 1) (Own.blk (n := 1) (sz := 2) hb rfl).cells rfl one2 rfl (by omega) (by omega) (by omega) fun G4 Z' z' hO keep => ?_
  obtain ⟨s4, o4⟩ := keep _ (Sub.wz _ Z) (Off.wz _ Z)
  obtain ⟨sG, oG⟩ := keep G (h.sub.trans s9) h.offZ
  have hnew : OwnT G10 t hh.A hh.c hh.B hh.d hh.hs := (hN.own.sub (Sub.rest _ _)).sub s10
  have hoff := hN.off
  refine hK G4 Z' z' sG s4 ⟨sG, hW.snoc hnew (fun x hx b hb q => ?_) (fun i hi x hx hy => ?_) s4 o4 hO, fun x hx => ?_⟩
  · have h1 := hoff x hx
    rw [q] at h1
    exact own_ne h.own.out b hb h1
  · have h1 := hoff x hy
    exact (h.own.tab i hi).on x hx h1
  · rcases hx with ⟨a, ha, rfl⟩ | ⟨i, hi, hx⟩
    · exact oG a ha
    · rw [List.length_append, List.length_singleton] at hi
      by_cases q : i = us.length
      · subst q
        simp only [if_true] at hx
        rw [show (us ++ [t]).getD us.length t0 = t by simp [List.getD]] at hx
        exact h.sub.none (hoff x hx)
      · simp only [if_neg q] at hx
        rw [show (us ++ [t]).getD i t0 = us.getD i t0 by simp [List.getD, List.getElem?_append_left (show i < us.length by omega)]] at hx
        exact h.off x (.inr ⟨i, by omega, hx⟩)
theorem RInv.swap {G G' G9 : GH} {Z : Option Addr} {z q i : Nat} {H : Nat → TH} {us : List Tab} {t : Tab} {hh : TH} (h : RInv G G' Z z H us) (hN : BoxT G' G9 q t hh.A hh.c hh.B hh.d hh.hs) (hi : i < us.length) {K : Value → GH → Prop}
    (hK : ∀ G4, RInv G G4 Z z (fun j => if j = i then hh else H j) (us.set i t) → K undef G4) :
    gSt 2 (.pointer (pa Z (i * 2))) (.agg [.slice hh.A t.cols.length hh.c, .slice hh.B t.rows.length hh.d].toArray) G9 K := by
  have hW := h.own.sub hN.sub
  have hoff := hN.off
  refine hW.put hi (hN.own.sub (Sub.rest _ _)) (fun x hx b hb y => ?_) (fun j hj hji x hx hy => ?_) fun G4 hG4 hO => hK G4 ⟨?_, hO, fun x hx => ?_⟩
  · have h1 := (hoff x hx).1
    rw [y] at h1
    exact own_ne h.own.out b hb h1
  · exact (h.own.tab j hj).on x hx (hoff x hy).1
  · obtain ⟨b, hb, e, rfl⟩ := hG4
    exact (h.sub.trans hN.sub).skip (h.offZ _ hb)
  · rcases hx with ⟨a, ha, rfl⟩ | ⟨j, hj, hx⟩
    · exact h.offZ a ha
    · rw [List.length_set] at hj
      by_cases y : j = i
      · subst y
        simp only [if_true] at hx
        rw [set_get hi, if_pos rfl] at hx
        exact h.sub.none (hoff x hx).1
      · simp only [if_neg y] at hx
        rw [set_get hi, if_neg y] at hx
        exact h.off x (.inr ⟨j, hj, hx⟩)
theorem NewT.parts {G G8 G9 : GH} {t : Tab} {D Y : Option Addr} {d y : Nat} {hs : Nat → Option Addr × Nat} (hD : New G G8 D d (t.cols.map I64) 1 t.cols.length) (s : Sub G8 G9) (hR : OwnR (rest G8 G9) Y y hs t.rows) : NewT G G9 t D d Y y hs := by
  obtain ⟨oY, oR⟩ := hR.offs
  have key : ∀ {A : Option Addr}, Off G8 A → ∀ a b, D = some a → A = some b → a.block ≠ b.block := fun o a b ha hb q => by
    have h1 := own_ne hD.fresh a ha
    rw [q, o b hb] at h1; exact h1 rfl
  refine ⟨hD.sub.trans s, ⟨(hD.fresh.sub s).rest hD.off, ?_, key oY, fun i hi => key (oR i hi)⟩⟩
  exact (hR.sub (Sub.rest _ _)).rest (oY.mono hD.sub) fun i hi => (oR i hi).mono hD.sub
theorem red_w {G : GH} {Z : Option Addr} {z : Nat} {H : Nat → TH} {us : List Tab} {T : Nat → Value} {i j : Nat} {K : (Nat → Value) → GH → Prop} (h : TabsS G Z z H us) (hi : i < us.length) (hj : j < us.length) (oi : TabOk (us.getD i t0)) (oj : TabOk (us.getD j t0))
    (e4 : T 4 = .slice Z us.length z) (e8 : T 8 = .int .i64 i) (e9 : T 9 = .int .i64 j)
    (hK : ∀ T' G' q X x Y y hs, BoxT G G' q (semiT (us.getD i t0) (us.getD j t0)) X x Y y hs → (∀ l, l ≠ 10 → l < 42 → T' l = T l) → T' 10 = .pointer (some ⟨q, 0, none⟩) → K T' G') : gT Try.prog c_impl_ReduceTables_19 [] K T G := by
  obtain ⟨ri, ci, ni⟩ := oi.rowL
  obtain ⟨rj, cj, nj⟩ := oj.rowL
  have hii : (i : Int) < us.length := by omega
  have hjj : (j : Int) < us.length := by omega
  have hsn := h.sn (by omega)
  have i0 := h.r0 i hi
  have i1 := h.r1 i hi
  have j0 := h.r0 j hj
  have j1 := h.r1 j hj
  simp (maxSteps := 300000) (disch := omega) only [gs, gs2, gs3, gs4, ↓reduceIte, Nat.reduceEqDiff, Int.reduceToNat, Nat.reduceMul, Nat.reduceAdd, Nat.reduceBEq, isLd, e4, e8, e9, hii, hjj, i0, i1, j0, j1]
  refine ⟨?_, ?_⟩
  · refine impl_semiJoin_ok (a := us.getD i t0) (b := us.getD j t0) (h.cols i hi) (h.rows i hi) (h.cols j hj) (h.rows j hj) (by omega) (by omega) ri rj (by omega) (by omega) fun G9 X x Y y hs hN => ?_
    unfold tabV tabC
    simp (maxSteps := 300000) (disch := omega) only [gs, gs2, gs3, gs4, ↓reduceIte, Nat.reduceEqDiff, Int.reduceToNat, Nat.reduceMul, Nat.reduceAdd, Nat.reduceBEq, isLd, rd_sub hN.sub i0, rd_sub hN.sub i1, rd_sub hN.sub j0, rd_sub hN.sub j1]
    intro b10 hb10
    have sl := hN.sub.trans (Sub.put hb10 ⟨[Value.slice none 0 0, Value.slice none 0 0], true⟩)
    simp (maxSteps := 300000) (disch := omega) only [gs, gs2, gs3, gs4, ↓reduceIte, Nat.reduceEqDiff, Int.reduceToNat, Nat.reduceMul, Nat.reduceAdd, Nat.reduceBEq, isLd, rd_sub sl i0, rd_sub sl i1, rd_sub sl j0, rd_sub sl j1]
    refine st_fresh (vs := [.slice X (semiT (us.getD i t0) (us.getD j t0)).cols.length x, .slice Y (semiT (us.getD i t0) (us.getD j t0)).rows.length y]) rfl rfl rfl (by intro v hv; simp at hv; rcases hv with rfl | rfl <;> rfl) ?_
    simp (maxSteps := 300000) (disch := omega) only [gs, gs2, gs3, gs4, ↓reduceIte, Nat.reduceEqDiff, Int.reduceToNat, Nat.reduceMul, Nat.reduceAdd, Nat.reduceBEq, isLd]
    exact hK _ _ b10 X x Y y hs (BoxT.mk1 hN (Sub.refl G) hb10) (fun l h1 h2 => by repeat rw [upd_app, if_neg (by omega)]) (by simp (maxSteps := 300000) (disch := omega) only [gs, gs2, gs3, gs4, ↓reduceIte, Nat.reduceEqDiff, Int.reduceToNat, Nat.reduceMul, Nat.reduceAdd, Nat.reduceBEq, isLd])
  · intro b10 hb10
    have sl := Sub.put hb10 ⟨[Value.slice none 0 0, Value.slice none 0 0], true⟩
    have q10 := put_same G b10 ⟨[Value.slice none 0 0, Value.slice none 0 0], true⟩
    simp (maxSteps := 300000) (disch := omega) only [gs, gs2, gs3, gs4, ↓reduceIte, Nat.reduceEqDiff, Int.reduceToNat, Nat.reduceMul, Nat.reduceAdd, Nat.reduceBEq, isLd, rd_sub sl i0, rd_sub sl i1, rd_sub sl j0, rd_sub sl j1]
    refine impl_semiJoin_ok (a := us.getD i t0) (b := us.getD j t0) ((h.cols i hi).sub sl) ((h.rows i hi).sub sl) ((h.cols j hj).sub sl) ((h.rows j hj).sub sl) (by omega) (by omega) ri rj (by omega) (by omega) fun G9 X x Y y hs hN => ?_
    unfold tabV tabC
    have s9 := sl.trans hN.sub
    simp (maxSteps := 300000) (disch := omega) only [gs, gs2, gs3, gs4, ↓reduceIte, Nat.reduceEqDiff, Int.reduceToNat, Nat.reduceMul, Nat.reduceAdd, Nat.reduceBEq, isLd, rd_sub s9 i0, rd_sub s9 i1, rd_sub s9 j0, rd_sub s9 j1]
    refine st_many (vs := [.slice X (semiT (us.getD i t0) (us.getD j t0)).cols.length x, .slice Y (semiT (us.getD i t0) (us.getD j t0)).rows.length y]) rfl (hN.sub _ _ q10) rfl (by simp) (by intro v hv; simp at hv; rcases hv with rfl | rfl <;> rfl) ?_
    simp only [over, List.set_cons_zero, List.set_cons_succ]
    simp (maxSteps := 300000) (disch := omega) only [gs, gs2, gs3, gs4, ↓reduceIte, Nat.reduceEqDiff, Int.reduceToNat, Nat.reduceMul, Nat.reduceAdd, Nat.reduceBEq, isLd]
    exact hK _ _ b10 X x Y y hs (BoxT.mk2 hN sl hb10 q10) (fun l h1 h2 => by repeat rw [upd_app, if_neg (by omega)]) (by simp (maxSteps := 300000) (disch := omega) only [gs, gs2, gs3, gs4, ↓reduceIte, Nat.reduceEqDiff, Int.reduceToNat, Nat.reduceMul, Nat.reduceAdd, Nat.reduceBEq, isLd])
theorem impl_ReduceTables_ok {G : GH} {A : Option Addr} {c : Nat} {H : Nat → TH} {ts : List Tab} (h : TabsS G A c H ts) (hl : TabsSm ts) {K : Value → GH → Prop}
    (hk : ∀ G' Z z H', NewTS G G' Z z H' (redV ts).1 → K (.tuple [.slice Z (redV ts).1.length z, .int .i64 (redV ts).2].toArray) G') : GC Try.prog 11 [.slice A ts.length c] G K := by
  refine c_impl_ReduceTables_i (by simp) ?_
  have hw := @red_w
  unfold c_impl_ReduceTables c_impl_ReduceTables_l3 c_impl_ReduceTables_l2 c_impl_ReduceTables_l1
  generalize c_impl_ReduceTables_19 = DD at hw ⊢
  have h0 : TH := ⟨none, 0, none, 0, fun _ => (none, 0)⟩
  simp (maxSteps := 300000) (disch := omega) only [gs, gs2, gs3, gs4, ↓reduceIte, Nat.reduceEqDiff, Int.reduceToNat, Nat.reduceMul, Nat.reduceAdd, Nat.reduceBEq, isLd]
  refine impl_ValidTables_ok h hl fun z hz => ?_
  cases z
  · simp (maxSteps := 300000) (disch := omega) only [gs, gs2, gs3, gs4, ↓reduceIte, Nat.reduceEqDiff, Int.reduceToNat, Nat.reduceMul, Nat.reduceAdd, Nat.reduceBEq, isLd]
    rw [redV_no fun y => by have := hz.2 y; cases this] at hk
    exact hk _ _ _ _ (NewTS.nil G fun _ => h0)
  have hok := hz.1 rfl
  obtain ⟨h6, hv⟩ := hok
  rw [redV_yes ⟨h6, hv⟩] at hk
  have hsn := h.sn
  simp (maxSteps := 300000) (disch := omega) only [gs, gs2, gs3, gs4, ↓reduceIte, Nat.reduceEqDiff, Int.reduceToNat, Nat.reduceMul, Nat.reduceAdd, Nat.reduceBEq, isLd]
  refine gLoop_intro (fun m T G' => ∃ (k : Nat) (Z : Option Addr) (z : Nat) (H' : Nat → TH), T 4 = .slice Z k z ∧ T 14 = .slice A ts.length c ∧ T 15 = .int .i64 ts.length ∧ T 16 = .int .i64 k ∧ m + k = ts.length ∧ k ≤ ts.length ∧ RInv G G' Z z H' (ts.take k)) ts.length
    ⟨0, none, 0, fun _ => h0, by simp (maxSteps := 300000) (disch := omega) only [gs, gs2, gs3, gs4, ↓reduceIte, Nat.reduceEqDiff, Int.reduceToNat, Nat.reduceMul, Nat.reduceAdd, Nat.reduceBEq, isLd] <;> rfl, by simp (maxSteps := 300000) (disch := omega) only [gs, gs2, gs3, gs4, ↓reduceIte, Nat.reduceEqDiff, Int.reduceToNat, Nat.reduceMul, Nat.reduceAdd, Nat.reduceBEq, isLd], by simp (maxSteps := 300000) (disch := omega) only [gs, gs2, gs3, gs4, ↓reduceIte, Nat.reduceEqDiff, Int.reduceToNat, Nat.reduceMul, Nat.reduceAdd, Nat.reduceBEq, isLd], by simp (maxSteps := 300000) (disch := omega) only [gs, gs2, gs3, gs4, ↓reduceIte, Nat.reduceEqDiff, Int.reduceToNat, Nat.reduceMul, Nat.reduceAdd, Nat.reduceBEq, isLd] <;> rfl, by omega, by omega, ⟨Sub.refl _, OwnTS.nil _ _, fun x hx => by rcases hx with ⟨a, ha, _⟩ | ⟨i, hi, _⟩; exact absurd ha (by simp); simp at hi⟩⟩ ?_
  rintro m T G' ⟨k, Z, z, H', e4, e14, e15, e16, hm, hkl, hI⟩
  simp (maxSteps := 300000) (disch := omega) only [gs, gs2, gs3, gs4, ↓reduceIte, Nat.reduceEqDiff, Int.reduceToNat, Nat.reduceMul, Nat.reduceAdd, Nat.reduceBEq, isLd, e4, e14, e15, e16]
  by_cases hkk : (k : Int) < ts.length
  · obtain ⟨rt, ct, nt⟩ := (hv k (by omega)).rowL
    have hh := h.sub hI.sub
    have q0 := hh.r0 k (by omega)
    have q1 := hh.r1 k (by omega)
    have hsn := hsn (by omega)
    have hlt : (ts.take k).length = k := by rw [List.length_take]; omega
    simp (maxSteps := 300000) (disch := omega) only [gs, gs2, gs3, gs4, ↓reduceIte, Nat.reduceEqDiff, Int.reduceToNat, Nat.reduceMul, Nat.reduceAdd, Nat.reduceBEq, isLd, e4, e14, e15, e16, hkk, q0, q1]
    intro b6 hb6
    simp (maxSteps := 300000) (disch := omega) only [gs, gs2, gs3, gs4, ↓reduceIte, Nat.reduceEqDiff, Int.reduceToNat, Nat.reduceMul, Nat.reduceAdd, Nat.reduceBEq, isLd, e4, e14, e15, e16]
    refine st_fresh (vs := [.slice (H k).A (ts.getD k t0).cols.length (H k).c, .slice (H k).B (ts.getD k t0).rows.length (H k).d]) rfl rfl rfl (by intro v hv; simp at hv; rcases hv with rfl | rfl <;> rfl) ?_
    have p6 := TabP.box hb6 (hh.cols k (by omega)) (hh.rows k (by omega))
    have s6 := Sub.put hb6 ⟨tabC (ts.getD k t0) (H k).A (H k).c (H k).B (H k).d, true⟩
    unfold tabC at p6 s6
    have hI6 := hI.up s6
    have nz : ∀ a, Z = some a → a.block ≠ b6 := fun a ha q => own_ne hI.own.out a ha (by rw [q]; exact hb6)
    revert p6 hI6
    generalize put G' b6 ⟨[.slice (H k).A (ts.getD k t0).cols.length (H k).c, .slice (H k).B (ts.getD k t0).rows.length (H k).d], true⟩ = G6
    intro p6 hI6
    clear s6 hb6 hI
    simp (maxSteps := 300000) (disch := omega) only [gs, gs2, gs3, gs4, ↓reduceIte, Nat.reduceEqDiff, Int.reduceToNat, Nat.reduceMul, Nat.reduceAdd, Nat.reduceBEq, isLd, e4, e14, e15, e16, p6.f0, p6.g1]
    refine slices_Clone_ok p6.cols (by omega) fun G8 D d hD => ?_
    have p8 := p6.sub hD.sub
    simp (maxSteps := 300000) (disch := omega) only [gs, gs2, gs3, gs4, ↓reduceIte, Nat.reduceEqDiff, Int.reduceToNat, Nat.reduceMul, Nat.reduceAdd, Nat.reduceBEq, isLd, e4, e14, e15, e16, p8.f0, p8.g1]
    refine impl_copyLists_ok p8.rows (by omega) (fun i hi => by have := rt i hi; omega) fun G9 Y y hs' s9 hR => ?_
    have p9 := p8.sub s9
    have hN := NewT.parts (t := ts.getD k t0) hD s9 hR
    have hbl : bldV [Value.slice none 0 0, Value.slice none 0 0] [(0, 1, Value.slice D (ts.getD k t0).cols.length d), (1, 1, Value.slice Y (ts.getD k t0).rows.length y)] = some [Value.slice D (ts.getD k t0).cols.length d, Value.slice Y (ts.getD k t0).rows.length y] := rfl
    simp (maxSteps := 300000) (disch := omega) only [gs, gs2, gs3, gs4, ↓reduceIte, Nat.reduceEqDiff, Int.reduceToNat, Nat.reduceMul, Nat.reduceAdd, Nat.reduceBEq, isLd, e4, e14, e15, e16, p9.f0, p9.g1, hbl, gBs]
    refine ⟨fun v hv => (by simp at hv; subst hv; rfl), fun bb hbb => ?_⟩
    have sb := Sub.put hbb ⟨[.slice D (ts.getD k t0).cols.length d, .slice Y (ts.getD k t0).rows.length y], true⟩
    have pb := p9.sub sb
    refine ⟨⟨pb.g1, pb.f0⟩, ?_⟩
    rw [show Value.slice Z k z = Value.slice Z (ts.take k).length z by rw [hlt]]
    refine hI6.add (hh := ⟨D, d, Y, y, hs'⟩) hN sb (put_same _ _ _) (by omega) fun G4 Z' z' s4 s4w hI4 => ?_
    have f6 : ∀ l v, l < 2 → rd (put G9 bb ⟨[.slice D (ts.getD k t0).cols.length d, .slice Y (ts.getD k t0).rows.length y], true⟩) (some ⟨b6, l, none⟩) = some v → rd G4 (some ⟨b6, l, none⟩) = some v := fun l v _ hv => by
      refine rd_sub s4w ?_
      simp only [rd] at hv ⊢
      rw [wz_ne nz]
      exact hv
    simp (maxSteps := 300000) (disch := omega) only [gs, gs2, gs3, gs4, ↓reduceIte, Nat.reduceEqDiff, Int.reduceToNat, Nat.reduceMul, Nat.reduceAdd, Nat.reduceBEq, isLd, e4, e14, e15, e16, f6 0 _ (by omega) pb.f0, f6 1 _ (by omega) pb.g1]
    rw [← take_snocT (by omega)] at hI4
    exact ⟨m - 1, by omega, G4, Sub.refl _, k + 1, Z', z', _, by rw [hlt], rfl, by omega, by omega, hI4⟩
  · obtain rfl : k = ts.length := by omega
    rw [List.take_length] at hI
    simp (maxSteps := 300000) (disch := omega) only [gs, gs2, gs3, gs4, ↓reduceIte, Nat.reduceEqDiff, Int.reduceToNat, Nat.reduceMul, Nat.reduceAdd, Nat.reduceBEq, isLd, e4, e14, e15, e16, hkk]
    refine gLoop_intro (fun m T G' => ∃ (us : List Tab) (ch : Bool) (H1 : Nat → TH), T 4 = .slice Z us.length z ∧ T 7 = .bool ch ∧ TsV us ∧ us.length ≤ 6 ∧ RInv G G' Z z H1 us ∧ (ch = true → redR us = redR ts ∧ m = tot us + 1) ∧ (ch = false → us = redR ts)) (tot ts + 1)
      ⟨ts, true, H', by simp (maxSteps := 300000) (disch := omega) only [gs, gs2, gs3, gs4, ↓reduceIte, Nat.reduceEqDiff, Int.reduceToNat, Nat.reduceMul, Nat.reduceAdd, Nat.reduceBEq, isLd, e4], by simp (maxSteps := 300000) (disch := omega) only [gs, gs2, gs3, gs4, ↓reduceIte, Nat.reduceEqDiff, Int.reduceToNat, Nat.reduceMul, Nat.reduceAdd, Nat.reduceBEq, isLd], hv, h6, hI, fun _ => ⟨rfl, rfl⟩, fun y => (by cases y)⟩ ?_
    clear e4 e14 e15 e16 hI hm hkl hkk
    rintro m' T' G'' ⟨us, ch, H1, e4, e7, vu, lu, hI, hct, hcf⟩
    simp (maxSteps := 300000) (disch := omega) only [gs, gs2, gs3, gs4, ↓reduceIte, Nat.reduceEqDiff, Int.reduceToNat, Nat.reduceMul, Nat.reduceAdd, Nat.reduceBEq, isLd, e4, e7]
    cases ch
    · simp (maxSteps := 300000) (disch := omega) only [gs, gs2, gs3, gs4, ↓reduceIte, Nat.reduceEqDiff, Int.reduceToNat, Nat.reduceMul, Nat.reduceAdd, Nat.reduceBEq, isLd, e4, e7]
      have := hcf rfl
      subst this
      exact hk _ _ _ _ hI.new
    · obtain ⟨hred, rfl⟩ := hct rfl
      simp (maxSteps := 300000) (disch := omega) only [gs, gs2, gs3, gs4, ↓reduceIte, Nat.reduceEqDiff, Int.reduceToNat, Nat.reduceMul, Nat.reduceAdd, Nat.reduceBEq, isLd, e4, e7]
      have hRP := fun i (hi : i ≤ us.length) => (RedS.start vu).pas i hi
      refine gLoop_intro (fun m T G' => ∃ (i : Nat) (H1 : Nat → TH), T 4 = .slice Z us.length z ∧ T 7 = .bool (pasS us.length (us, false) i).2 ∧ T 32 = .slice Z us.length z ∧ T 33 = .int .i64 us.length ∧ T 34 = .int .i64 i ∧ m + i = us.length ∧ i ≤ us.length ∧ RInv G G' Z z H1 (pasS us.length (us, false) i).1) us.length
        ⟨0, H1, by simp (maxSteps := 300000) (disch := omega) only [gs, gs2, gs3, gs4, ↓reduceIte, Nat.reduceEqDiff, Int.reduceToNat, Nat.reduceMul, Nat.reduceAdd, Nat.reduceBEq, isLd, e4], by simp (maxSteps := 300000) (disch := omega) only [gs, gs2, gs3, gs4, ↓reduceIte, Nat.reduceEqDiff, Int.reduceToNat, Nat.reduceMul, Nat.reduceAdd, Nat.reduceBEq, isLd] <;> rfl, by simp (maxSteps := 300000) (disch := omega) only [gs, gs2, gs3, gs4, ↓reduceIte, Nat.reduceEqDiff, Int.reduceToNat, Nat.reduceMul, Nat.reduceAdd, Nat.reduceBEq, isLd], by simp (maxSteps := 300000) (disch := omega) only [gs, gs2, gs3, gs4, ↓reduceIte, Nat.reduceEqDiff, Int.reduceToNat, Nat.reduceMul, Nat.reduceAdd, Nat.reduceBEq, isLd], by simp (maxSteps := 300000) (disch := omega) only [gs, gs2, gs3, gs4, ↓reduceIte, Nat.reduceEqDiff, Int.reduceToNat, Nat.reduceMul, Nat.reduceAdd, Nat.reduceBEq, isLd] <;> rfl, by omega, by omega, hI⟩ ?_
      clear e4 e7 hI H1
      rintro m2 T2 G2 ⟨i, H1, e4, e7, e32, e33, e34, hm2, hil, hI⟩
      simp (maxSteps := 300000) (disch := omega) only [gs, gs2, gs3, gs4, ↓reduceIte, Nat.reduceEqDiff, Int.reduceToNat, Nat.reduceMul, Nat.reduceAdd, Nat.reduceBEq, isLd, e4, e7, e32, e33, e34]
      by_cases hii : (i : Int) < us.length
      · simp (maxSteps := 300000) (disch := omega) only [gs, gs2, gs3, gs4, ↓reduceIte, Nat.reduceEqDiff, Int.reduceToNat, Nat.reduceMul, Nat.reduceAdd, Nat.reduceBEq, isLd, e4, e7, e32, e33, e34, hii]
        have hS := hRP i (by omega)
        refine gLoop_intro (fun m T G' => ∃ (j : Nat) (H1 : Nat → TH), T 4 = .slice Z us.length z ∧ T 7 = .bool (innS i (pasS us.length (us, false) i) j).2 ∧ T 8 = .int .i64 i ∧ T 32 = .slice Z us.length z ∧ T 33 = .int .i64 us.length ∧ T 34 = .int .i64 i ∧ T 37 = .slice Z us.length z ∧ T 38 = .int .i64 us.length ∧ T 39 = .int .i64 j ∧ m + j = us.length ∧ j ≤ us.length ∧ RInv G G' Z z H1 (innS i (pasS us.length (us, false) i) j).1) us.length
          ⟨0, H1, by simp (maxSteps := 300000) (disch := omega) only [gs, gs2, gs3, gs4, ↓reduceIte, Nat.reduceEqDiff, Int.reduceToNat, Nat.reduceMul, Nat.reduceAdd, Nat.reduceBEq, isLd, e4], by simp (maxSteps := 300000) (disch := omega) only [gs, gs2, gs3, gs4, ↓reduceIte, Nat.reduceEqDiff, Int.reduceToNat, Nat.reduceMul, Nat.reduceAdd, Nat.reduceBEq, isLd, e7] <;> rfl, by simp (maxSteps := 300000) (disch := omega) only [gs, gs2, gs3, gs4, ↓reduceIte, Nat.reduceEqDiff, Int.reduceToNat, Nat.reduceMul, Nat.reduceAdd, Nat.reduceBEq, isLd], by simp (maxSteps := 300000) (disch := omega) only [gs, gs2, gs3, gs4, ↓reduceIte, Nat.reduceEqDiff, Int.reduceToNat, Nat.reduceMul, Nat.reduceAdd, Nat.reduceBEq, isLd, e32], by simp (maxSteps := 300000) (disch := omega) only [gs, gs2, gs3, gs4, ↓reduceIte, Nat.reduceEqDiff, Int.reduceToNat, Nat.reduceMul, Nat.reduceAdd, Nat.reduceBEq, isLd, e33], by simp (maxSteps := 300000) (disch := omega) only [gs, gs2, gs3, gs4, ↓reduceIte, Nat.reduceEqDiff, Int.reduceToNat, Nat.reduceMul, Nat.reduceAdd, Nat.reduceBEq, isLd, e34], by simp (maxSteps := 300000) (disch := omega) only [gs, gs2, gs3, gs4, ↓reduceIte, Nat.reduceEqDiff, Int.reduceToNat, Nat.reduceMul, Nat.reduceAdd, Nat.reduceBEq, isLd], by simp (maxSteps := 300000) (disch := omega) only [gs, gs2, gs3, gs4, ↓reduceIte, Nat.reduceEqDiff, Int.reduceToNat, Nat.reduceMul, Nat.reduceAdd, Nat.reduceBEq, isLd], by simp (maxSteps := 300000) (disch := omega) only [gs, gs2, gs3, gs4, ↓reduceIte, Nat.reduceEqDiff, Int.reduceToNat, Nat.reduceMul, Nat.reduceAdd, Nat.reduceBEq, isLd] <;> rfl, by omega, by omega, hI⟩ ?_
        clear e4 e7 e32 e33 e34 hI H1
        rintro m3 T3 G3 ⟨j, H1, e4, e7, e8, e32, e33, e34, e37, e38, e39, hm3, hjl, hI⟩
        simp (maxSteps := 300000) (disch := omega) only [gs, gs2, gs3, gs4, ↓reduceIte, Nat.reduceEqDiff, Int.reduceToNat, Nat.reduceMul, Nat.reduceAdd, Nat.reduceBEq, isLd, e4, e7, e8, e32, e33, e34, e37, e38, e39]
        by_cases hjj : (j : Int) < us.length
        · have hJ := hS.inn (i := i) (by omega) j hjl
          have hjs : innS i (pasS us.length (us, false) i) (j + 1) = stepS i j (innS i (pasS us.length (us, false) i) j) := rfl
          generalize innS i (pasS us.length (us, false) i) j = s at hJ hI e7 hjs
          have hsl := hJ.len
          simp (maxSteps := 300000) (disch := omega) only [gs, gs2, gs3, gs4, ↓reduceIte, Nat.reduceEqDiff, Int.reduceToNat, Nat.reduceMul, Nat.reduceAdd, Nat.reduceBEq, isLd, e4, e7, e8, e32, e33, e34, e37, e38, e39, hjj]
          refine hw (i := i) (j := j) hI.own.tabs (by omega) (by omega) (hJ.ok i (by omega)) (hJ.ok j (by omega)) (by simp (maxSteps := 300000) (disch := omega) only [gs, gs2, gs3, gs4, ↓reduceIte, Nat.reduceEqDiff, Int.reduceToNat, Nat.reduceMul, Nat.reduceAdd, Nat.reduceBEq, isLd, e4, hsl]) (by simp (maxSteps := 300000) (disch := omega) only [gs, gs2, gs3, gs4, ↓reduceIte, Nat.reduceEqDiff, Int.reduceToNat, Nat.reduceMul, Nat.reduceAdd, Nat.reduceBEq, isLd, e8]) (by simp (maxSteps := 300000) (disch := omega) only [gs, gs2, gs3, gs4, ↓reduceIte, Nat.reduceEqDiff, Int.reduceToNat, Nat.reduceMul, Nat.reduceAdd, Nat.reduceBEq, isLd]) fun T4 G4 q X x Y y hs hB hT e10 => ?_
          have f4 := (hT 4 (by omega) (by omega)).trans (show _ = Value.slice Z us.length z by simp (maxSteps := 300000) (disch := omega) only [gs, gs2, gs3, gs4, ↓reduceIte, Nat.reduceEqDiff, Int.reduceToNat, Nat.reduceMul, Nat.reduceAdd, Nat.reduceBEq, isLd, e4])
          have f7 := (hT 7 (by omega) (by omega)).trans (show _ = Value.bool s.2 by simp (maxSteps := 300000) (disch := omega) only [gs, gs2, gs3, gs4, ↓reduceIte, Nat.reduceEqDiff, Int.reduceToNat, Nat.reduceMul, Nat.reduceAdd, Nat.reduceBEq, isLd, e7])
          have f8 := (hT 8 (by omega) (by omega)).trans (show _ = Value.int .i64 i by simp (maxSteps := 300000) (disch := omega) only [gs, gs2, gs3, gs4, ↓reduceIte, Nat.reduceEqDiff, Int.reduceToNat, Nat.reduceMul, Nat.reduceAdd, Nat.reduceBEq, isLd, e8])
          have f32 := (hT 32 (by omega) (by omega)).trans (show _ = Value.slice Z us.length z by simp (maxSteps := 300000) (disch := omega) only [gs, gs2, gs3, gs4, ↓reduceIte, Nat.reduceEqDiff, Int.reduceToNat, Nat.reduceMul, Nat.reduceAdd, Nat.reduceBEq, isLd, e32])
          have f33 := (hT 33 (by omega) (by omega)).trans (show _ = Value.int .i64 us.length by simp (maxSteps := 300000) (disch := omega) only [gs, gs2, gs3, gs4, ↓reduceIte, Nat.reduceEqDiff, Int.reduceToNat, Nat.reduceMul, Nat.reduceAdd, Nat.reduceBEq, isLd, e33])
          have f34 := (hT 34 (by omega) (by omega)).trans (show _ = Value.int .i64 i by simp (maxSteps := 300000) (disch := omega) only [gs, gs2, gs3, gs4, ↓reduceIte, Nat.reduceEqDiff, Int.reduceToNat, Nat.reduceMul, Nat.reduceAdd, Nat.reduceBEq, isLd, e34])
          have f37 := (hT 37 (by omega) (by omega)).trans (show _ = Value.slice Z us.length z by simp (maxSteps := 300000) (disch := omega) only [gs, gs2, gs3, gs4, ↓reduceIte, Nat.reduceEqDiff, Int.reduceToNat, Nat.reduceMul, Nat.reduceAdd, Nat.reduceBEq, isLd, e37])
          have f38 := (hT 38 (by omega) (by omega)).trans (show _ = Value.int .i64 us.length by simp (maxSteps := 300000) (disch := omega) only [gs, gs2, gs3, gs4, ↓reduceIte, Nat.reduceEqDiff, Int.reduceToNat, Nat.reduceMul, Nat.reduceAdd, Nat.reduceBEq, isLd, e38])
          have f39 := (hT 39 (by omega) (by omega)).trans (show _ = Value.int .i64 j by simp (maxSteps := 300000) (disch := omega) only [gs, gs2, gs3, gs4, ↓reduceIte, Nat.reduceEqDiff, Int.reduceToNat, Nat.reduceMul, Nat.reduceAdd, Nat.reduceBEq, isLd, e39])
          clear hT e4 e7 e8 e32 e33 e34 e37 e38 e39
          have pB := hB.p.sub (Sub.rest _ _)
          have hI4 := hI.up hB.sub
          have hT4 := hI4.own.tabs
          have i0 := hT4.r0 i (by omega)
          have i1 := hT4.r1 i (by omega)
          have hsz := hT4.sn (by omega)
          simp (maxSteps := 300000) (disch := omega) only [gs, gs2, gs3, gs4, ↓reduceIte, Nat.reduceEqDiff, Int.reduceToNat, Nat.reduceMul, Nat.reduceAdd, Nat.reduceBEq, isLd, f4, f7, f8, f32, f33, f34, f37, f38, f39, e10, pB.f0, pB.g1, i0, i1]
          by_cases hlt : (((semiT (s.1.getD i t0) (s.1.getD j t0)).rows.length : Nat) : Int) < ((s.1.getD i t0).rows.length : Nat)
          · have hst : stepS i j s = (s.1.set i (semiT (s.1.getD i t0) (s.1.getD j t0)), true) := by unfold stepS; rw [if_pos (by omega)]
            simp (maxSteps := 300000) (disch := omega) only [gs, gs2, gs3, gs4, ↓reduceIte, Nat.reduceEqDiff, Int.reduceToNat, Nat.reduceMul, Nat.reduceAdd, Nat.reduceBEq, isLd, f4, f7, f8, f32, f33, f34, f37, f38, f39, e10, pB.f0, pB.g1, hlt]
            refine hI.swap (hh := ⟨X, x, Y, y, hs⟩) hB (by omega) fun G5 hI5 => ?_
            simp (maxSteps := 300000) (disch := omega) only [gs, gs2, gs3, gs4, ↓reduceIte, Nat.reduceEqDiff, Int.reduceToNat, Nat.reduceMul, Nat.reduceAdd, Nat.reduceBEq, isLd, f4, f7, f8, f32, f33, f34, f37, f38, f39]
            exact ⟨m3 - 1, by omega, G5, Sub.refl _, j + 1, _, by rw [hjs, hst], rfl, by omega, by omega, by rw [hjs, hst]; exact hI5⟩
          · have hst : stepS i j s = s := by unfold stepS; rw [if_neg (by omega)]
            simp (maxSteps := 300000) (disch := omega) only [gs, gs2, gs3, gs4, ↓reduceIte, Nat.reduceEqDiff, Int.reduceToNat, Nat.reduceMul, Nat.reduceAdd, Nat.reduceBEq, isLd, f4, f7, f8, f32, f33, f34, f37, f38, f39, e10, hlt]
            exact ⟨m3 - 1, by omega, G4, Sub.refl _, j + 1, H1, by rw [hjs, hst], rfl, by omega, by omega, by rw [hjs, hst]; exact hI4⟩
        · obtain rfl : j = us.length := by omega
          simp (maxSteps := 300000) (disch := omega) only [gs, gs2, gs3, gs4, ↓reduceIte, Nat.reduceEqDiff, Int.reduceToNat, Nat.reduceMul, Nat.reduceAdd, Nat.reduceBEq, isLd, e4, e7, e8, e32, e33, e34, e37, e38, e39, hjj]
          exact ⟨m2 - 1, by omega, G3, Sub.refl _, i + 1, H1, rfl, rfl, by omega, by omega, hI⟩
      · obtain rfl : i = us.length := by omega
        simp (maxSteps := 300000) (disch := omega) only [gs, gs2, gs3, gs4, ↓reduceIte, Nat.reduceEqDiff, Int.reduceToNat, Nat.reduceMul, Nat.reduceAdd, Nat.reduceBEq, isLd, e4, e7, e32, e33, e34, hii]
        have hP := RedS.pass vu
        have ep : pasS us.length (us, false) us.length = pass us := rfl
        rw [ep] at e7 hI
        refine ⟨tot (pass us).1 + 1 - (if (pass us).2 = true then 0 else 1), ?_, G2, Sub.refl _, (pass us).1, (pass us).2, H1, by rw [hP.len], rfl, hP.ok, by rw [hP.len]; exact lu, hI, fun hc => ⟨by rw [← redR_yes vu hc]; exact hred, by rw [if_pos hc]; omega⟩, fun hc => by rw [← redR_no vu hc]; exact hred⟩
        cases hc : (pass us).2 with
        | true => have := hP.lt hc; rw [if_pos rfl]; omega
        | false => have := hP.le; rw [if_neg (by simp)]; omega
theorem red_w2 {G : GH} {Z : Option Addr} {z : Nat} {H : Nat → TH} {us : List Tab} {T : Nat → Value} {i j : Nat} {K : (Nat → Value) → GH → Prop} (h : TabsS G Z z H us) (hi : i < us.length) (hj : j < us.length) (oi : TabOk (us.getD i t0)) (oj : TabOk (us.getD j t0)) (hl : us.length < 2 ^ 20)
    (e4 : T 4 = .slice Z us.length z) (e7 : T 7 = .int .i64 i) (e8 : T 8 = .int .i64 j)
    (hK : ∀ T' G' q X x Y y hs, BoxT G G' q (semiT (us.getD i t0) (us.getD j t0)) X x Y y hs → (∀ l, l ≠ 9 → l < 45 → T' l = T l) → T' 9 = .pointer (some ⟨q, 0, none⟩) → K T' G') : gT Try.prog c_spec_ReduceTables_16 [] K T G := by
  have hii : (i : Int) < us.length := by omega
  have hjj : (j : Int) < us.length := by omega
  have hsn := h.sn (by omega)
  have tp : ∀ l, l < us.length → TabP G (pa Z (l * 2)) (us.getD l t0) (H l).A (H l).c (H l).B (H l).d (H l).hs := fun l hl => ⟨h.r0 l hl, by rw [pa_pa]; exact h.r1 l hl, h.cols l hl, h.rows l hl⟩
  simp (maxSteps := 300000) (disch := omega) only [gs, gs2, gs3, gs4, ↓reduceIte, Nat.reduceEqDiff, Int.reduceToNat, Nat.reduceMul, Nat.reduceAdd, Nat.reduceBEq, isLd, e4, e7, e8, hii, hjj]
  refine ⟨?_, ?_⟩
  · refine spec_l20Semi_ok (tp i hi) (tp j hj) oi oj fun G9 X x Y y hs hN => ?_
    unfold tabV tabC
    simp (maxSteps := 300000) (disch := omega) only [gs, gs2, gs3, gs4, ↓reduceIte, Nat.reduceEqDiff, Int.reduceToNat, Nat.reduceMul, Nat.reduceAdd, Nat.reduceBEq, isLd]
    intro b10 hb10
    simp (maxSteps := 300000) (disch := omega) only [gs, gs2, gs3, gs4, ↓reduceIte, Nat.reduceEqDiff, Int.reduceToNat, Nat.reduceMul, Nat.reduceAdd, Nat.reduceBEq, isLd]
    refine st_fresh (vs := [.slice X (semiT (us.getD i t0) (us.getD j t0)).cols.length x, .slice Y (semiT (us.getD i t0) (us.getD j t0)).rows.length y]) rfl rfl rfl (by intro v hv; simp at hv; rcases hv with rfl | rfl <;> rfl) ?_
    simp (maxSteps := 300000) (disch := omega) only [gs, gs2, gs3, gs4, ↓reduceIte, Nat.reduceEqDiff, Int.reduceToNat, Nat.reduceMul, Nat.reduceAdd, Nat.reduceBEq, isLd]
    exact hK _ _ b10 X x Y y hs (BoxT.mk1 hN (Sub.refl G) hb10) (fun l h1 h2 => by repeat rw [upd_app, if_neg (by omega)]) (by simp (maxSteps := 300000) (disch := omega) only [gs, gs2, gs3, gs4, ↓reduceIte, Nat.reduceEqDiff, Int.reduceToNat, Nat.reduceMul, Nat.reduceAdd, Nat.reduceBEq, isLd])
  · intro b10 hb10
    have sl := Sub.put hb10 ⟨[Value.slice none 0 0, Value.slice none 0 0], true⟩
    have q10 := put_same G b10 ⟨[Value.slice none 0 0, Value.slice none 0 0], true⟩
    simp (maxSteps := 300000) (disch := omega) only [gs, gs2, gs3, gs4, ↓reduceIte, Nat.reduceEqDiff, Int.reduceToNat, Nat.reduceMul, Nat.reduceAdd, Nat.reduceBEq, isLd]
    refine spec_l20Semi_ok ((tp i hi).sub sl) ((tp j hj).sub sl) oi oj fun G9 X x Y y hs hN => ?_
    unfold tabV tabC
    simp (maxSteps := 300000) (disch := omega) only [gs, gs2, gs3, gs4, ↓reduceIte, Nat.reduceEqDiff, Int.reduceToNat, Nat.reduceMul, Nat.reduceAdd, Nat.reduceBEq, isLd]
    refine st_many (vs := [.slice X (semiT (us.getD i t0) (us.getD j t0)).cols.length x, .slice Y (semiT (us.getD i t0) (us.getD j t0)).rows.length y]) rfl (hN.sub _ _ q10) rfl (by simp) (by intro v hv; simp at hv; rcases hv with rfl | rfl <;> rfl) ?_
    simp only [over, List.set_cons_zero, List.set_cons_succ]
    simp (maxSteps := 300000) (disch := omega) only [gs, gs2, gs3, gs4, ↓reduceIte, Nat.reduceEqDiff, Int.reduceToNat, Nat.reduceMul, Nat.reduceAdd, Nat.reduceBEq, isLd]
    exact hK _ _ b10 X x Y y hs (BoxT.mk2 hN sl hb10 q10) (fun l h1 h2 => by repeat rw [upd_app, if_neg (by omega)]) (by simp (maxSteps := 300000) (disch := omega) only [gs, gs2, gs3, gs4, ↓reduceIte, Nat.reduceEqDiff, Int.reduceToNat, Nat.reduceMul, Nat.reduceAdd, Nat.reduceBEq, isLd])
theorem spec_ReduceTables_ok {G : GH} {A : Option Addr} {c : Nat} {H : Nat → TH} {ts : List Tab} (h : TabsS G A c H ts) (hl : TabsSm ts) {K : Value → GH → Prop}
    (hk : ∀ G' Z z H', NewTS G G' Z z H' (redV ts).1 → K (.tuple [.slice Z (redV ts).1.length z, .int .i64 (redV ts).2].toArray) G') : GC Try.prog 9 [.slice A ts.length c] G K := by
  refine c_spec_ReduceTables_i (by simp) ?_
  have hw := @red_w2
  unfold c_spec_ReduceTables c_spec_ReduceTables_l3 c_spec_ReduceTables_l2 c_spec_ReduceTables_l1
  generalize c_spec_ReduceTables_16 = DD at hw ⊢
  have h0 : TH := ⟨none, 0, none, 0, fun _ => (none, 0)⟩
  simp (maxSteps := 300000) (disch := omega) only [gs, gs2, gs3, gs4, ↓reduceIte, Nat.reduceEqDiff, Int.reduceToNat, Nat.reduceMul, Nat.reduceAdd, Nat.reduceBEq, isLd]
  refine spec_l20List_ok h hl fun z hz => ?_
  cases z
  · simp (maxSteps := 300000) (disch := omega) only [gs, gs2, gs3, gs4, ↓reduceIte, Nat.reduceEqDiff, Int.reduceToNat, Nat.reduceMul, Nat.reduceAdd, Nat.reduceBEq, isLd]
    rw [redV_no fun y => by have := hz.2 y; cases this] at hk
    exact hk _ _ _ _ (NewTS.nil G fun _ => h0)
  have hok := hz.1 rfl
  obtain ⟨h6, hv⟩ := hok
  rw [redV_yes ⟨h6, hv⟩] at hk
  have hsn := h.sn
  have tp : ∀ l, l < ts.length → TabP G (pa A (l * 2)) (ts.getD l t0) (H l).A (H l).c (H l).B (H l).d (H l).hs := fun l hl => ⟨h.r0 l hl, by rw [pa_pa]; exact h.r1 l hl, h.cols l hl, h.rows l hl⟩
  simp (maxSteps := 300000) (disch := omega) only [gs, gs2, gs3, gs4, ↓reduceIte, Nat.reduceEqDiff, Int.reduceToNat, Nat.reduceMul, Nat.reduceAdd, Nat.reduceBEq, isLd, gBs]
  refine ⟨fun v hv => (by cases hv), fun bz hbz => ?_⟩
  refine gLoop_intro (fun m T G' => ∃ (k : Nat) (Z : Option Addr) (z : Nat) (H' : Nat → TH), T 0 = .slice A ts.length c ∧ T 4 = .slice Z k z ∧ T 5 = .int .i64 k ∧ m + k = ts.length ∧ k ≤ ts.length ∧ RInv G G' Z z H' (ts.take k)) ts.length
    ⟨0, some ⟨bz, 0, none⟩, 0, fun _ => h0, by simp (maxSteps := 300000) (disch := omega) only [gs, gs2, gs3, gs4, ↓reduceIte, Nat.reduceEqDiff, Int.reduceToNat, Nat.reduceMul, Nat.reduceAdd, Nat.reduceBEq, isLd], by simp (maxSteps := 300000) (disch := omega) only [gs, gs2, gs3, gs4, ↓reduceIte, Nat.reduceEqDiff, Int.reduceToNat, Nat.reduceMul, Nat.reduceAdd, Nat.reduceBEq, isLd] <;> rfl, by simp (maxSteps := 300000) (disch := omega) only [gs, gs2, gs3, gs4, ↓reduceIte, Nat.reduceEqDiff, Int.reduceToNat, Nat.reduceMul, Nat.reduceAdd, Nat.reduceBEq, isLd] <;> rfl, by omega, by omega, ⟨Sub.put hbz _, ⟨Own.blk (put_same _ _ _) rfl, fun i hi => by simp at hi, fun i hi => by simp at hi, fun i j hi => by simp at hi⟩, fun x hx => by
      rcases hx with ⟨a, ha, hx⟩ | ⟨i, hi, _⟩
      · cases ha; subst hx; exact hbz
      · simp at hi⟩⟩ ?_
  rintro m T G' ⟨k, Z, z, H', e0, e4, e5, hm, hkl, hI⟩
  simp (maxSteps := 300000) (disch := omega) only [gs, gs2, gs3, gs4, ↓reduceIte, Nat.reduceEqDiff, Int.reduceToNat, Nat.reduceMul, Nat.reduceAdd, Nat.reduceBEq, isLd, e0, e4, e5]
  by_cases hkk : (k : Int) < ts.length
  · obtain ⟨rt, ct, nt⟩ := (hv k (by omega)).rowL
    have hh := h.sub hI.sub
    have q0 := hh.r0 k (by omega)
    have hsn := hsn (by omega)
    have hlt : (ts.take k).length = k := by rw [List.length_take]; omega
    simp (maxSteps := 300000) (disch := omega) only [gs, gs2, gs3, gs4, ↓reduceIte, Nat.reduceEqDiff, Int.reduceToNat, Nat.reduceMul, Nat.reduceAdd, Nat.reduceBEq, isLd, e0, e4, e5, hkk, q0]
    refine spec_l20Project_ok ((tp k (by omega)).sub hI.sub) (hh.cols k (by omega)) (fun v hv => hv) (by omega) (by omega) rt (by omega) fun G9 D d Y y hs' hN => ?_
    rw [projT_self (hv k (by omega))] at hN ⊢
    unfold tabV tabC
    have q9 := rd_sub hN.sub q0
    simp (maxSteps := 300000) (disch := omega) only [gs, gs2, gs3, gs4, ↓reduceIte, Nat.reduceEqDiff, Int.reduceToNat, Nat.reduceMul, Nat.reduceAdd, Nat.reduceBEq, isLd, e0, e4, e5, hkk, q9, gBs]
    refine ⟨fun v hv => (by simp at hv; subst hv; rfl), fun bb hbb => ?_⟩
    have sb := Sub.put hbb ⟨[.slice D (ts.getD k t0).cols.length d, .slice Y (ts.getD k t0).rows.length y], true⟩
    refine ⟨rd_sub sb q9, ?_⟩
    rw [show Value.slice Z k z = Value.slice Z (ts.take k).length z by rw [hlt]]
    refine hI.add (hh := ⟨D, d, Y, y, hs'⟩) hN sb (put_same _ _ _) (by omega) fun G4 Z' z' s4 s4w hI4 => ?_
    have q4 := rd_sub s4 (h.r0 k (by omega))
    simp (maxSteps := 300000) (disch := omega) only [gs, gs2, gs3, gs4, ↓reduceIte, Nat.reduceEqDiff, Int.reduceToNat, Nat.reduceMul, Nat.reduceAdd, Nat.reduceBEq, isLd, e0, e4, e5, hkk, q4]
    rw [← take_snocT (by omega)] at hI4
    exact ⟨m - 1, by omega, G4, Sub.refl _, k + 1, Z', z', _, by rw [hlt], rfl, by omega, by omega, hI4⟩
  · obtain rfl : k = ts.length := by omega
    rw [List.take_length] at hI
    simp (maxSteps := 300000) (disch := omega) only [gs, gs2, gs3, gs4, ↓reduceIte, Nat.reduceEqDiff, Int.reduceToNat, Nat.reduceMul, Nat.reduceAdd, Nat.reduceBEq, isLd, e0, e4, e5, hkk]
    refine gLoop_intro (fun m T G' => ∃ (us : List Tab) (ch : Bool) (H1 : Nat → TH), T 4 = .slice Z us.length z ∧ T 6 = .bool ch ∧ TsV us ∧ us.length ≤ 6 ∧ RInv G G' Z z H1 us ∧ (ch = true → redR us = redR ts ∧ m = tot us + 1) ∧ (ch = false → us = redR ts)) (tot ts + 1)
      ⟨ts, true, H', by simp (maxSteps := 300000) (disch := omega) only [gs, gs2, gs3, gs4, ↓reduceIte, Nat.reduceEqDiff, Int.reduceToNat, Nat.reduceMul, Nat.reduceAdd, Nat.reduceBEq, isLd, e4], by simp (maxSteps := 300000) (disch := omega) only [gs, gs2, gs3, gs4, ↓reduceIte, Nat.reduceEqDiff, Int.reduceToNat, Nat.reduceMul, Nat.reduceAdd, Nat.reduceBEq, isLd], hv, h6, hI, fun _ => ⟨rfl, rfl⟩, fun y => (by cases y)⟩ ?_
    clear e0 e4 e5 hI hm hkl hkk
    rintro m' T' G'' ⟨us, ch, H1, e4, e6, vu, lu, hI, hct, hcf⟩
    simp (maxSteps := 300000) (disch := omega) only [gs, gs2, gs3, gs4, ↓reduceIte, Nat.reduceEqDiff, Int.reduceToNat, Nat.reduceMul, Nat.reduceAdd, Nat.reduceBEq, isLd, e4, e6]
    cases ch
    · simp (maxSteps := 300000) (disch := omega) only [gs, gs2, gs3, gs4, ↓reduceIte, Nat.reduceEqDiff, Int.reduceToNat, Nat.reduceMul, Nat.reduceAdd, Nat.reduceBEq, isLd, e4, e6]
      have := hcf rfl
      subst this
      exact hk _ _ _ _ hI.new
    · obtain ⟨hred, rfl⟩ := hct rfl
      simp (maxSteps := 300000) (disch := omega) only [gs, gs2, gs3, gs4, ↓reduceIte, Nat.reduceEqDiff, Int.reduceToNat, Nat.reduceMul, Nat.reduceAdd, Nat.reduceBEq, isLd, e4, e6]
      have hRP := fun i (hi : i ≤ us.length) => (RedS.start vu).pas i hi
      refine gLoop_intro (fun m T G' => ∃ (i : Nat) (H1 : Nat → TH), T 4 = .slice Z us.length z ∧ T 6 = .bool (pasS us.length (us, false) i).2 ∧ T 7 = .int .i64 i ∧ m + i = us.length ∧ i ≤ us.length ∧ RInv G G' Z z H1 (pasS us.length (us, false) i).1) us.length
        ⟨0, H1, by simp (maxSteps := 300000) (disch := omega) only [gs, gs2, gs3, gs4, ↓reduceIte, Nat.reduceEqDiff, Int.reduceToNat, Nat.reduceMul, Nat.reduceAdd, Nat.reduceBEq, isLd, e4], by simp (maxSteps := 300000) (disch := omega) only [gs, gs2, gs3, gs4, ↓reduceIte, Nat.reduceEqDiff, Int.reduceToNat, Nat.reduceMul, Nat.reduceAdd, Nat.reduceBEq, isLd] <;> rfl, by simp (maxSteps := 300000) (disch := omega) only [gs, gs2, gs3, gs4, ↓reduceIte, Nat.reduceEqDiff, Int.reduceToNat, Nat.reduceMul, Nat.reduceAdd, Nat.reduceBEq, isLd] <;> rfl, by omega, by omega, hI⟩ ?_
      clear e4 e6 hI H1
      rintro m2 T2 G2 ⟨i, H1, e4, e6, e7, hm2, hil, hI⟩
      simp (maxSteps := 300000) (disch := omega) only [gs, gs2, gs3, gs4, ↓reduceIte, Nat.reduceEqDiff, Int.reduceToNat, Nat.reduceMul, Nat.reduceAdd, Nat.reduceBEq, isLd, e4, e6, e7]
      by_cases hii : (i : Int) < us.length
      · simp (maxSteps := 300000) (disch := omega) only [gs, gs2, gs3, gs4, ↓reduceIte, Nat.reduceEqDiff, Int.reduceToNat, Nat.reduceMul, Nat.reduceAdd, Nat.reduceBEq, isLd, e4, e6, e7, hii]
        have hS := hRP i (by omega)
        refine gLoop_intro (fun m T G' => ∃ (j : Nat) (H1 : Nat → TH), T 4 = .slice Z us.length z ∧ T 6 = .bool (innS i (pasS us.length (us, false) i) j).2 ∧ T 7 = .int .i64 i ∧ T 8 = .int .i64 j ∧ m + j = us.length ∧ j ≤ us.length ∧ RInv G G' Z z H1 (innS i (pasS us.length (us, false) i) j).1) us.length
          ⟨0, H1, by simp (maxSteps := 300000) (disch := omega) only [gs, gs2, gs3, gs4, ↓reduceIte, Nat.reduceEqDiff, Int.reduceToNat, Nat.reduceMul, Nat.reduceAdd, Nat.reduceBEq, isLd, e4], by simp (maxSteps := 300000) (disch := omega) only [gs, gs2, gs3, gs4, ↓reduceIte, Nat.reduceEqDiff, Int.reduceToNat, Nat.reduceMul, Nat.reduceAdd, Nat.reduceBEq, isLd, e6] <;> rfl, by simp (maxSteps := 300000) (disch := omega) only [gs, gs2, gs3, gs4, ↓reduceIte, Nat.reduceEqDiff, Int.reduceToNat, Nat.reduceMul, Nat.reduceAdd, Nat.reduceBEq, isLd, e7], by simp (maxSteps := 300000) (disch := omega) only [gs, gs2, gs3, gs4, ↓reduceIte, Nat.reduceEqDiff, Int.reduceToNat, Nat.reduceMul, Nat.reduceAdd, Nat.reduceBEq, isLd] <;> rfl, by omega, by omega, hI⟩ ?_
        clear e4 e6 e7 hI H1
        rintro m3 T3 G3 ⟨j, H1, e4, e6, e7, e8, hm3, hjl, hI⟩
        simp (maxSteps := 300000) (disch := omega) only [gs, gs2, gs3, gs4, ↓reduceIte, Nat.reduceEqDiff, Int.reduceToNat, Nat.reduceMul, Nat.reduceAdd, Nat.reduceBEq, isLd, e4, e6, e7, e8]
        by_cases hjj : (j : Int) < us.length
        · have hJ := hS.inn (i := i) (by omega) j hjl
          have hjs : innS i (pasS us.length (us, false) i) (j + 1) = stepS i j (innS i (pasS us.length (us, false) i) j) := rfl
          generalize innS i (pasS us.length (us, false) i) j = s at hJ hI e6 hjs
          have hsl := hJ.len
          simp (maxSteps := 300000) (disch := omega) only [gs, gs2, gs3, gs4, ↓reduceIte, Nat.reduceEqDiff, Int.reduceToNat, Nat.reduceMul, Nat.reduceAdd, Nat.reduceBEq, isLd, e4, e6, e7, e8, hjj]
          refine hw (i := i) (j := j) hI.own.tabs (by omega) (by omega) (hJ.ok i (by omega)) (hJ.ok j (by omega)) (by omega) (by simp (maxSteps := 300000) (disch := omega) only [gs, gs2, gs3, gs4, ↓reduceIte, Nat.reduceEqDiff, Int.reduceToNat, Nat.reduceMul, Nat.reduceAdd, Nat.reduceBEq, isLd, e4, hsl]) (by simp (maxSteps := 300000) (disch := omega) only [gs, gs2, gs3, gs4, ↓reduceIte, Nat.reduceEqDiff, Int.reduceToNat, Nat.reduceMul, Nat.reduceAdd, Nat.reduceBEq, isLd, e7]) (by simp (maxSteps := 300000) (disch := omega) only [gs, gs2, gs3, gs4, ↓reduceIte, Nat.reduceEqDiff, Int.reduceToNat, Nat.reduceMul, Nat.reduceAdd, Nat.reduceBEq, isLd, e8]) fun T4 G4 q X x Y y hs hB hT e10 => ?_
          have f4 := (hT 4 (by omega) (by omega)).trans (show _ = Value.slice Z us.length z by simp (maxSteps := 300000) (disch := omega) only [gs, gs2, gs3, gs4, ↓reduceIte, Nat.reduceEqDiff, Int.reduceToNat, Nat.reduceMul, Nat.reduceAdd, Nat.reduceBEq, isLd, e4])
          have f6 := (hT 6 (by omega) (by omega)).trans (show _ = Value.bool s.2 by simp (maxSteps := 300000) (disch := omega) only [gs, gs2, gs3, gs4, ↓reduceIte, Nat.reduceEqDiff, Int.reduceToNat, Nat.reduceMul, Nat.reduceAdd, Nat.reduceBEq, isLd, e6])
          have f7 := (hT 7 (by omega) (by omega)).trans (show _ = Value.int .i64 i by simp (maxSteps := 300000) (disch := omega) only [gs, gs2, gs3, gs4, ↓reduceIte, Nat.reduceEqDiff, Int.reduceToNat, Nat.reduceMul, Nat.reduceAdd, Nat.reduceBEq, isLd, e7])
          have f8 := (hT 8 (by omega) (by omega)).trans (show _ = Value.int .i64 j by simp (maxSteps := 300000) (disch := omega) only [gs, gs2, gs3, gs4, ↓reduceIte, Nat.reduceEqDiff, Int.reduceToNat, Nat.reduceMul, Nat.reduceAdd, Nat.reduceBEq, isLd, e8])
          clear hT e4 e6 e7 e8
          have pB := hB.p.sub (Sub.rest _ _)
          have hI4 := hI.up hB.sub
          have hT4 := hI4.own.tabs
          have i0 := hT4.r0 i (by omega)
          have i1 := hT4.r1 i (by omega)
          have hsz := hT4.sn (by omega)
          simp (maxSteps := 300000) (disch := omega) only [gs, gs2, gs3, gs4, ↓reduceIte, Nat.reduceEqDiff, Int.reduceToNat, Nat.reduceMul, Nat.reduceAdd, Nat.reduceBEq, isLd, f4, f6, f7, f8, e10, pB.f0, pB.g1, i0, i1]
          by_cases hlt : (((semiT (s.1.getD i t0) (s.1.getD j t0)).rows.length : Nat) : Int) < ((s.1.getD i t0).rows.length : Nat)
          · have hst : stepS i j s = (s.1.set i (semiT (s.1.getD i t0) (s.1.getD j t0)), true) := by unfold stepS; rw [if_pos (by omega)]
            simp (maxSteps := 300000) (disch := omega) only [gs, gs2, gs3, gs4, ↓reduceIte, Nat.reduceEqDiff, Int.reduceToNat, Nat.reduceMul, Nat.reduceAdd, Nat.reduceBEq, isLd, f4, f6, f7, f8, e10, pB.f0, pB.g1, hlt]
            refine hI.swap (hh := ⟨X, x, Y, y, hs⟩) hB (by omega) fun G5 hI5 => ?_
            simp (maxSteps := 300000) (disch := omega) only [gs, gs2, gs3, gs4, ↓reduceIte, Nat.reduceEqDiff, Int.reduceToNat, Nat.reduceMul, Nat.reduceAdd, Nat.reduceBEq, isLd, f4, f6, f7, f8]
            exact ⟨m3 - 1, by omega, G5, Sub.refl _, j + 1, _, by rw [hjs, hst], rfl, by omega, by omega, by rw [hjs, hst]; exact hI5⟩
          · have hst : stepS i j s = s := by unfold stepS; rw [if_neg (by omega)]
            simp (maxSteps := 300000) (disch := omega) only [gs, gs2, gs3, gs4, ↓reduceIte, Nat.reduceEqDiff, Int.reduceToNat, Nat.reduceMul, Nat.reduceAdd, Nat.reduceBEq, isLd, f4, f6, f7, f8, e10, hlt]
            exact ⟨m3 - 1, by omega, G4, Sub.refl _, j + 1, H1, by rw [hjs, hst], rfl, by omega, by omega, by rw [hjs, hst]; exact hI4⟩
        · obtain rfl : j = us.length := by omega
          simp (maxSteps := 300000) (disch := omega) only [gs, gs2, gs3, gs4, ↓reduceIte, Nat.reduceEqDiff, Int.reduceToNat, Nat.reduceMul, Nat.reduceAdd, Nat.reduceBEq, isLd, e4, e6, e7, e8, hjj]
          exact ⟨m2 - 1, by omega, G3, Sub.refl _, i + 1, H1, rfl, rfl, by omega, by omega, hI⟩
      · obtain rfl : i = us.length := by omega
        simp (maxSteps := 300000) (disch := omega) only [gs, gs2, gs3, gs4, ↓reduceIte, Nat.reduceEqDiff, Int.reduceToNat, Nat.reduceMul, Nat.reduceAdd, Nat.reduceBEq, isLd, e4, e6, e7, hii]
        have hP := RedS.pass vu
        have ep : pasS us.length (us, false) us.length = pass us := rfl
        rw [ep] at e6 hI
        refine ⟨tot (pass us).1 + 1 - (if (pass us).2 = true then 0 else 1), ?_, G2, Sub.refl _, (pass us).1, (pass us).2, H1, by rw [hP.len], rfl, hP.ok, by rw [hP.len]; exact lu, hI, fun hc => ⟨by rw [← redR_yes vu hc]; exact hred, by rw [if_pos hc]; omega⟩, fun hc => by rw [← redR_no vu hc]; exact hred⟩
        cases hc : (pass us).2 with
        | true => have := hP.lt hc; rw [if_pos rfl]; omega
        | false => have := hP.le; rw [if_neg (by simp)]; omega
/-- how many numbers a table has; how many lie ahead of one in a list. -/
def szT (t : Tab) : Nat := t.cols.length + pre t.rows t.rows.length
def preT (ts : List Tab) : Nat → Nat
  | 0 => 0
  | j + 1 => preT ts j + szT (ts.getD j t0)
theorem preT_mono {ts : List Tab} : ∀ {i j : Nat}, i ≤ j → preT ts i ≤ preT ts j := by
  intro i j h
  obtain ⟨e, rfl⟩ : ∃ e, j = i + e := ⟨j - i, by omega⟩
  clear h
  induction e with
  | zero => exact Nat.le_refl _
  | succ e ih => exact Nat.le_trans ih (Nat.le_add_right _ _)
def mkTs (k : Int) (ts : List Tab) : List Tab := (List.range ts.length).map fun j => mkT (k + preT ts j) (ts.getD j t0)
theorem mkTs_len (k : Int) (ts : List Tab) : (mkTs k ts).length = ts.length := by simp [mkTs]
theorem mkTs_get {k : Int} {ts : List Tab} {j : Nat} (hj : j < ts.length) : (mkTs k ts).getD j t0 = mkT (k + preT ts j) (ts.getD j t0) := by simp [mkTs, List.getD, hj]
def midT (k : Int) (ts : List Tab) (i : Nat) : List Tab := (List.range ts.length).map fun j => if j < i then mkT (k + preT ts j) (ts.getD j t0) else ts.getD j t0
theorem midT_len (k : Int) (ts : List Tab) (i : Nat) : (midT k ts i).length = ts.length := by simp [midT]
theorem midT_get {k : Int} {ts : List Tab} {i j : Nat} (hj : j < ts.length) : (midT k ts i).getD j t0 = if j < i then mkT (k + preT ts j) (ts.getD j t0) else ts.getD j t0 := by simp [midT, List.getD, hj]
theorem midT_zero (k : Int) (ts : List Tab) : midT k ts 0 = ts := by
  refine List.ext_getElem (by simp [midT]) fun j h1 h2 => ?_
  simp [midT, List.getD, h2]
theorem midT_all (k : Int) (ts : List Tab) : midT k ts ts.length = mkTs k ts := by
  unfold midT mkTs
  refine List.map_congr_left fun j hj => ?_
  rw [if_pos (List.mem_range.1 hj)]
theorem mkT_cols (k : Int) (t : Tab) : (mkT k t).cols.length = t.cols.length := by show (marks k t.cols.length).length = _; rw [marks_len]
theorem mkT_rows (k : Int) (t : Tab) : (mkT k t).rows.length = t.rows.length := by show (mks _ t.rows).length = _; rw [mks_len]
/-- a list of tables that are small together. -/
structure TsSm (ts : List Tab) : Prop where
  n : ts.length ≤ 2 ^ 20
  t : ∀ i, i < ts.length → TSm (ts.getD i t0)
  p : preT ts ts.length ≤ 2 ^ 20
theorem TsSm.tabs {ts : List Tab} (h : TsSm ts) : TabsSm ts := ⟨h.n, fun i hi => ⟨(h.t i hi).1, (h.t i hi).2.1⟩⟩
theorem laws_szInt64SS_ok3 {G : GH} {A : Option Addr} {c : Nat} {hs : Nat → Option Addr × Nat} {xss : List (List Int)} {left : Int} (h : RowS G A c hs xss) (h0 : 0 ≤ left ∧ left ≤ 2 ^ 20) (hn : xss.length ≤ 2 ^ 63 - 1) (hn' : ∀ i, i < xss.length → (xss.getD i []).length ≤ 2 ^ 63 - 1) {K : Value → GH → Prop}
    (hk : ∀ l : Int, -1 ≤ l → l ≤ 2 ^ 20 → (0 ≤ l → l + pre xss xss.length ≤ left ∧ Sm xss) → K (.int .i64 l) G) : GC Try.prog 42 [.slice A xss.length c, .int .i64 left] G K := by
  refine c_laws_szInt64SS_i (by simp) ?_
  have hsn := h.sn
  have r := h.r
  simp (maxSteps := 300000) (disch := omega) only [gs, gs2, gs3, gs4, ↓reduceIte, Nat.reduceEqDiff, Int.reduceToNat, Nat.reduceMul, Nat.reduceAdd, Nat.reduceBEq, isLd]
  by_cases h1 : left - (xss.length : Int) < 0
  · simp (maxSteps := 300000) (disch := omega) only [gs, gs2, gs3, gs4, ↓reduceIte, Nat.reduceEqDiff, Int.reduceToNat, Nat.reduceMul, Nat.reduceAdd, Nat.reduceBEq, isLd, h1]; exact hk _ (by omega) (by omega) (by omega)
  simp (maxSteps := 300000) (disch := omega) only [gs, gs2, gs3, gs4, ↓reduceIte, Nat.reduceEqDiff, Int.reduceToNat, Nat.reduceMul, Nat.reduceAdd, Nat.reduceBEq, isLd, h1]
  refine gLoop_intro (fun m T G' => ∃ (k : Nat) (l : Int), T 0 = .slice A xss.length c ∧ T 1 = .int .i64 l ∧ T 5 = .int .i64 k ∧ m + k = xss.length ∧ k ≤ xss.length ∧ G' = G ∧ (0 ≤ l ∧ l + pre xss k ≤ left) ∧ ∀ i, i < k → (xss.getD i []).length ≤ 2 ^ 20)
    xss.length ⟨0, _, by simp (maxSteps := 300000) (disch := omega) only [gs, gs2, gs3, gs4, ↓reduceIte, Nat.reduceEqDiff, Int.reduceToNat, Nat.reduceMul, Nat.reduceAdd, Nat.reduceBEq, isLd], by simp (maxSteps := 300000) (disch := omega) only [gs, gs2, gs3, gs4, ↓reduceIte, Nat.reduceEqDiff, Int.reduceToNat, Nat.reduceMul, Nat.reduceAdd, Nat.reduceBEq, isLd] <;> rfl, by simp (maxSteps := 300000) (disch := omega) only [gs, gs2, gs3, gs4, ↓reduceIte, Nat.reduceEqDiff, Int.reduceToNat, Nat.reduceMul, Nat.reduceAdd, Nat.reduceBEq, isLd] <;> rfl, by omega, by omega, rfl, by simp only [pre]; omega, fun i hi => by omega⟩ ?_
  rintro m T G' ⟨k, l, e0, e1, e5, hm, hkl, rfl, hl, hin⟩
  simp (maxSteps := 300000) (disch := omega) only [gs, gs2, gs3, gs4, ↓reduceIte, Nat.reduceEqDiff, Int.reduceToNat, Nat.reduceMul, Nat.reduceAdd, Nat.reduceBEq, isLd, e0, e1, e5]
  by_cases hkk : (k : Int) < xss.length
  · simp (maxSteps := 300000) (disch := omega) only [gs, gs2, gs3, gs4, ↓reduceIte, Nat.reduceEqDiff, Int.reduceToNat, Nat.reduceMul, Nat.reduceAdd, Nat.reduceBEq, isLd, e0, e1, e5, hkk, r]
    have := hn' k (by omega)
    refine laws_szInt64S_ok ⟨by omega, by omega⟩ this fun l' q1 q2 q3 => ?_
    simp (maxSteps := 300000) (disch := omega) only [gs, gs2, gs3, gs4, ↓reduceIte, Nat.reduceEqDiff, Int.reduceToNat, Nat.reduceMul, Nat.reduceAdd, Nat.reduceBEq, isLd, e0, e1, e5]
    by_cases h2 : l' < 0
    · simp (maxSteps := 300000) (disch := omega) only [gs, gs2, gs3, gs4, ↓reduceIte, Nat.reduceEqDiff, Int.reduceToNat, Nat.reduceMul, Nat.reduceAdd, Nat.reduceBEq, isLd, h2]; exact hk _ (by omega) (by omega) (by omega)
    · simp (maxSteps := 300000) (disch := omega) only [gs, gs2, gs3, gs4, ↓reduceIte, Nat.reduceEqDiff, Int.reduceToNat, Nat.reduceMul, Nat.reduceAdd, Nat.reduceBEq, isLd, h2, e0, e1, e5]
      have hp : pre xss (k + 1) = pre xss k + (xss.getD k []).length := rfl
      refine ⟨m - 1, by omega, _, Sub.refl _, k + 1, l', rfl, rfl, by omega, by omega, rfl, by omega, fun i hi => ?_⟩
      by_cases hik : i = k
      · subst hik; omega
      · exact hin i (by omega)
  · simp (maxSteps := 300000) (disch := omega) only [gs, gs2, gs3, gs4, ↓reduceIte, Nat.reduceEqDiff, Int.reduceToNat, Nat.reduceMul, Nat.reduceAdd, Nat.reduceBEq, isLd, e0, e1, e5, hkk]
    obtain rfl : k = xss.length := by omega
    exact hk _ (by omega) (by omega) fun _ => ⟨by omega, ⟨by omega, fun i hi => hin i (by omega)⟩⟩
theorem laws_szTable_ok3 {G : GH} {N : Tab} {A B : Option Addr} {c d : Nat} {hs : Nat → Option Addr × Nat} {left : Int} (h : RowS G B d hs N.rows) (h0 : 0 ≤ left ∧ left ≤ 2 ^ 20) (hc : N.cols.length ≤ 2 ^ 63 - 1) (hn : N.rows.length ≤ 2 ^ 63 - 1) (hn' : ∀ i, i < N.rows.length → (N.rows.getD i []).length ≤ 2 ^ 63 - 1) {K : Value → GH → Prop}
    (hk : ∀ l : Int, -1 ≤ l → l ≤ 2 ^ 20 → (0 ≤ l → l + szT N ≤ left ∧ TSm N) → K (.int .i64 l) G) : GC Try.prog 15 [tabV N A c B d, .int .i64 left] G K := by
  refine GC_drop (c_laws_szTable_i (by simp) ?_)
  unfold tabV tabC
  simp (maxSteps := 300000) (disch := omega) only [gs, gs2, gs3, gs4, ↓reduceIte, Nat.reduceEqDiff, Int.reduceToNat, Nat.reduceMul, Nat.reduceAdd, Nat.reduceBEq, isLd]
  intro b1 hb1
  have s1 := Sub.put hb1 ⟨[.slice A N.cols.length c, .slice B N.rows.length d], true⟩
  simp (maxSteps := 300000) (disch := omega) only [gs, gs2, gs3, gs4, ↓reduceIte, Nat.reduceEqDiff, Int.reduceToNat, Nat.reduceMul, Nat.reduceAdd, Nat.reduceBEq, isLd]
  refine laws_szInt64S_ok ⟨by omega, by omega⟩ hc fun l q1 q2 q3 => ?_
  simp (maxSteps := 300000) (disch := omega) only [gs, gs2, gs3, gs4, ↓reduceIte, Nat.reduceEqDiff, Int.reduceToNat, Nat.reduceMul, Nat.reduceAdd, Nat.reduceBEq, isLd]
  by_cases h1 : l < 0
  · simp (maxSteps := 300000) (disch := omega) only [gs, gs2, gs3, gs4, ↓reduceIte, Nat.reduceEqDiff, Int.reduceToNat, Nat.reduceMul, Nat.reduceAdd, Nat.reduceBEq, isLd, h1]; exact ⟨G, s1, hk _ (by omega) (by omega) (by omega)⟩
  simp (maxSteps := 300000) (disch := omega) only [gs, gs2, gs3, gs4, ↓reduceIte, Nat.reduceEqDiff, Int.reduceToNat, Nat.reduceMul, Nat.reduceAdd, Nat.reduceBEq, isLd, h1]
  refine laws_szInt64SS_ok3 (h.sub s1) ⟨by omega, by omega⟩ hn hn' fun l' r1 r2 r3 => ?_
  simp (maxSteps := 300000) (disch := omega) only [gs, gs2, gs3, gs4, ↓reduceIte, Nat.reduceEqDiff, Int.reduceToNat, Nat.reduceMul, Nat.reduceAdd, Nat.reduceBEq, isLd]
  by_cases h2 : l' < 0
  · simp (maxSteps := 300000) (disch := omega) only [gs, gs2, gs3, gs4, ↓reduceIte, Nat.reduceEqDiff, Int.reduceToNat, Nat.reduceMul, Nat.reduceAdd, Nat.reduceBEq, isLd, h2]; exact ⟨G, s1, hk _ (by omega) (by omega) (by omega)⟩
  simp (maxSteps := 300000) (disch := omega) only [gs, gs2, gs3, gs4, ↓reduceIte, Nat.reduceEqDiff, Int.reduceToNat, Nat.reduceMul, Nat.reduceAdd, Nat.reduceBEq, isLd, h2]
  refine ⟨G, s1, hk _ (by omega) (by omega) fun _ => ?_⟩
  obtain ⟨r4, r5⟩ := r3 (by omega)
  unfold szT TSm
  push_cast
  exact ⟨by omega, by omega, r5, by omega⟩
theorem laws_szTableS_ok3 {G : GH} {A : Option Addr} {c : Nat} {H : Nat → TH} {ts : List Tab} {left : Int} (h : TabsS G A c H ts) (h0 : 0 ≤ left ∧ left ≤ 2 ^ 20) (hn : ts.length ≤ 2 ^ 63 - 1) (hn' : ∀ i, i < ts.length → TabM (ts.getD i t0)) {K : Value → GH → Prop}
    (hk : ∀ l : Int, -1 ≤ l → l ≤ 2 ^ 20 → (0 ≤ l → TsSm ts) → K (.int .i64 l) G) : GC Try.prog 8 [.slice A ts.length c, .int .i64 left] G K := by
  refine c_laws_szTableS_i (by simp) ?_
  have hsn := h.sn
  have r0 := h.r0
  have r1 := h.r1
  simp (maxSteps := 300000) (disch := omega) only [gs, gs2, gs3, gs4, ↓reduceIte, Nat.reduceEqDiff, Int.reduceToNat, Nat.reduceMul, Nat.reduceAdd, Nat.reduceBEq, isLd]
  by_cases h1 : left - (ts.length : Int) < 0
  · simp (maxSteps := 300000) (disch := omega) only [gs, gs2, gs3, gs4, ↓reduceIte, Nat.reduceEqDiff, Int.reduceToNat, Nat.reduceMul, Nat.reduceAdd, Nat.reduceBEq, isLd, h1]; exact hk _ (by omega) (by omega) (by omega)
  simp (maxSteps := 300000) (disch := omega) only [gs, gs2, gs3, gs4, ↓reduceIte, Nat.reduceEqDiff, Int.reduceToNat, Nat.reduceMul, Nat.reduceAdd, Nat.reduceBEq, isLd, h1]
  refine gLoop_intro (fun m T G' => ∃ (k : Nat) (l : Int), T 0 = .slice A ts.length c ∧ T 1 = .int .i64 l ∧ T 5 = .int .i64 k ∧ m + k = ts.length ∧ k ≤ ts.length ∧ G' = G ∧ (0 ≤ l ∧ l + preT ts k ≤ left) ∧ ∀ i, i < k → TSm (ts.getD i t0))
    ts.length ⟨0, _, by simp (maxSteps := 300000) (disch := omega) only [gs, gs2, gs3, gs4, ↓reduceIte, Nat.reduceEqDiff, Int.reduceToNat, Nat.reduceMul, Nat.reduceAdd, Nat.reduceBEq, isLd], by simp (maxSteps := 300000) (disch := omega) only [gs, gs2, gs3, gs4, ↓reduceIte, Nat.reduceEqDiff, Int.reduceToNat, Nat.reduceMul, Nat.reduceAdd, Nat.reduceBEq, isLd] <;> rfl, by simp (maxSteps := 300000) (disch := omega) only [gs, gs2, gs3, gs4, ↓reduceIte, Nat.reduceEqDiff, Int.reduceToNat, Nat.reduceMul, Nat.reduceAdd, Nat.reduceBEq, isLd] <;> rfl, by omega, by omega, rfl, by simp only [preT]; omega, fun i hi => by omega⟩ ?_
  rintro m T G' ⟨k, l, e0, e1, e5, hm, hkl, rfl, hl, hin⟩
  simp (maxSteps := 300000) (disch := omega) only [gs, gs2, gs3, gs4, ↓reduceIte, Nat.reduceEqDiff, Int.reduceToNat, Nat.reduceMul, Nat.reduceAdd, Nat.reduceBEq, isLd, e0, e1, e5]
  by_cases hkk : (k : Int) < ts.length
  · simp (maxSteps := 300000) (disch := omega) only [gs, gs2, gs3, gs4, ↓reduceIte, Nat.reduceEqDiff, Int.reduceToNat, Nat.reduceMul, Nat.reduceAdd, Nat.reduceBEq, isLd, e0, e1, e5, hkk, r0, r1]
    obtain ⟨m1, m2, m3⟩ := hn' k (by omega)
    refine laws_szTable_ok3 (N := ts.getD k t0) (h.rows k (by omega)) ⟨by omega, by omega⟩ m1 m2 m3 fun l' q1 q2 q3 => ?_
    simp (maxSteps := 300000) (disch := omega) only [gs, gs2, gs3, gs4, ↓reduceIte, Nat.reduceEqDiff, Int.reduceToNat, Nat.reduceMul, Nat.reduceAdd, Nat.reduceBEq, isLd, e0, e1, e5]
    by_cases h2 : l' < 0
    · simp (maxSteps := 300000) (disch := omega) only [gs, gs2, gs3, gs4, ↓reduceIte, Nat.reduceEqDiff, Int.reduceToNat, Nat.reduceMul, Nat.reduceAdd, Nat.reduceBEq, isLd, h2]; exact hk _ (by omega) (by omega) (by omega)
    · simp (maxSteps := 300000) (disch := omega) only [gs, gs2, gs3, gs4, ↓reduceIte, Nat.reduceEqDiff, Int.reduceToNat, Nat.reduceMul, Nat.reduceAdd, Nat.reduceBEq, isLd, h2, e0, e1, e5]
      have hp : preT ts (k + 1) = preT ts k + szT (ts.getD k t0) := rfl
      obtain ⟨q4, q5⟩ := q3 (by omega)
      refine ⟨m - 1, by omega, _, Sub.refl _, k + 1, l', rfl, rfl, by omega, by omega, rfl, by omega, fun i hi => ?_⟩
      by_cases hik : i = k
      · subst hik; exact q5
      · exact hin i (by omega)
  · simp (maxSteps := 300000) (disch := omega) only [gs, gs2, gs3, gs4, ↓reduceIte, Nat.reduceEqDiff, Int.reduceToNat, Nat.reduceMul, Nat.reduceAdd, Nat.reduceBEq, isLd, e0, e1, e5, hkk]
    obtain rfl : k = ts.length := by omega
    exact hk _ (by omega) (by omega) fun _ => ⟨by omega, fun i hi => hin i (by omega), by omega⟩
theorem laws_toTableS_new {G : GH} {A : Option Addr} {c : Nat} {H : Nat → TH} {ts : List Tab} (h : TabsS G A c H ts) (hsm : TabsSm ts) {K : Value → GH → Prop}
    (hk : ∀ A' H' G', NewTS G G' A' ts.length H' ts → K (.slice A' ts.length ts.length) G') : GC Try.prog 10 [.slice A ts.length c] G K := by
  refine c_laws_toTableS_i (by simp) ?_
  have hsn := h.sn
  obtain ⟨hs1, hs2⟩ := hsm
  simp (maxSteps := 300000) (disch := omega) only [gs, gs2, gs3, gs4, ↓reduceIte, Nat.reduceEqDiff, Int.reduceToNat, Nat.reduceMul, Nat.reduceAdd, Nat.reduceBEq, isLd]
  refine ⟨ts.length, ts.length, rfl, rfl, Nat.le_refl _, by omega, by omega, fun b hb => ?_⟩
  simp (maxSteps := 300000) (disch := omega) only [gs, gs2, gs3, gs4, ↓reduceIte, Nat.reduceEqDiff, Int.reduceToNat, Nat.reduceMul, Nat.reduceAdd, Nat.reduceBEq, isLd]
  have hfl : ∀ (H' : Nat → TH) j, ((List.range j).flatMap (fun i => tabC (ts.getD i t0) (H' i).A (H' i).c (H' i).B (H' i).d)).length = j * 2 := fun H' j => cellsF_len _ (fun _ => rfl) j
  refine gLoop_intro (fun m T G' => ∃ (k : Nat) (H' : Nat → TH), T 0 = .slice A ts.length c ∧ T 3 = .slice (some ⟨b, 0, none⟩) ts.length ts.length ∧ T 4 = .int .i64 k ∧ m + k = ts.length ∧ k ≤ ts.length ∧ Sub G G' ∧
    G' b = some ⟨((List.range k).flatMap (fun i => tabC (ts.getD i t0) (H' i).A (H' i).c (H' i).B (H' i).d)) ++ List.replicate ((ts.length - k) * 2) (.slice none 0 0), true⟩ ∧
    (∀ i, i < k → OwnT G' (ts.getD i t0) (H' i).A (H' i).c (H' i).B (H' i).d (H' i).hs ∧ ∀ x, hB (H' i) (ts.getD i t0).rows.length x → G x = none ∧ x ≠ b) ∧ ∀ i j, i < k → j < k → i ≠ j → ∀ x, hB (H' i) (ts.getD i t0).rows.length x → ¬ hB (H' j) (ts.getD j t0).rows.length x)
    ts.length ⟨0, fun _ => ⟨none, 0, none, 0, fun _ => (none, 0)⟩, by simp (maxSteps := 300000) (disch := omega) only [gs, gs2, gs3, gs4, ↓reduceIte, Nat.reduceEqDiff, Int.reduceToNat, Nat.reduceMul, Nat.reduceAdd, Nat.reduceBEq, isLd], by simp (maxSteps := 300000) (disch := omega) only [gs, gs2, gs3, gs4, ↓reduceIte, Nat.reduceEqDiff, Int.reduceToNat, Nat.reduceMul, Nat.reduceAdd, Nat.reduceBEq, isLd], by simp (maxSteps := 300000) (disch := omega) only [gs, gs2, gs3, gs4, ↓reduceIte, Nat.reduceEqDiff, Int.reduceToNat, Nat.reduceMul, Nat.reduceAdd, Nat.reduceBEq, isLd] <;> rfl, by omega, by omega, Sub.put hb _, by rw [put_same, show [Value.slice none 0 0, .slice none 0 0] = List.replicate 2 (.slice none 0 0) from rfl, zc_rep]; simp, fun i hi => by omega, fun i j hi => by omega⟩ ?_
  rintro m T G' ⟨k, H', e0, e3, e4, hm, hkl, hS, hBl, hR, hI⟩
  have hh := h.sub hS
  have r0 := hh.r0
  have r1 := hh.r1
  simp (maxSteps := 300000) (disch := omega) only [gs, gs2, gs3, gs4, ↓reduceIte, Nat.reduceEqDiff, Int.reduceToNat, Nat.reduceMul, Nat.reduceAdd, Nat.reduceBEq, isLd, e0, e3, e4]
  by_cases hkk : (k : Int) < ts.length
  · simp (maxSteps := 300000) (disch := omega) only [gs, gs2, gs3, gs4, ↓reduceIte, Nat.reduceEqDiff, Int.reduceToNat, Nat.reduceMul, Nat.reduceAdd, Nat.reduceBEq, isLd, e0, e3, e4, hkk, r0, r1]
    refine laws_toTable_new (N := ts.getD k t0) (hh.cols k (by omega)) (hh.rows k (by omega)) (hs2 k (by omega)).1 (hs2 k (by omega)).2 fun A2 B2 hs2' G2 hN => ?_
    have hB2 := hN.sub _ _ hBl
    have hoff := hN.off
    unfold tabV tabC
    simp (maxSteps := 300000) (disch := omega) only [gs, gs2, gs3, gs4, ↓reduceIte, Nat.reduceEqDiff, Int.reduceToNat, Nat.reduceMul, Nat.reduceAdd, Nat.reduceBEq, isLd, e0, e3, e4]
    refine st_many (vs := tabC (ts.getD k t0) A2 (ts.getD k t0).cols.length B2 (ts.getD k t0).rows.length) rfl hB2 rfl (by rw [List.length_append, hfl, List.length_replicate]; omega) (tabC_one _ _ _ _ _) ?_
    simp (maxSteps := 300000) (disch := omega) only [gs, gs2, gs3, gs4, ↓reduceIte, Nat.reduceEqDiff, Int.reduceToNat, Nat.reduceMul, Nat.reduceAdd, Nat.reduceBEq, isLd, e0, e3, e4]
    have nb : ∀ x, tabB A2 B2 hs2' (ts.getD k t0).rows.length x → x ≠ b := fun x hx q => by have := hoff x hx; rw [q, hBl] at this; cases this
    have u : ∀ e, Oth (fun x => x = b) G2 (put G2 b e) := fun e => Oth.put _ _ _
    refine ⟨m - 1, by omega, _, Sub.refl _, k + 1, fun i => if i = k then ⟨A2, (ts.getD k t0).cols.length, B2, (ts.getD k t0).rows.length, hs2'⟩ else H' i, rfl, by omega, by omega, (hS.trans hN.sub).skip hb, ?_, fun i hi => ?_, fun i j hi hj hij => ?_⟩
    · rw [put_same]
      congr 2
      have := over_app (tabC (ts.getD k t0) A2 (ts.getD k t0).cols.length B2 (ts.getD k t0).rows.length) ((List.range k).flatMap (fun i => tabC (ts.getD i t0) (H' i).A (H' i).c (H' i).B (H' i).d)) (List.replicate ((ts.length - k) * 2) (.slice none 0 0))
      rw [hfl] at this
      rw [this, if_pos (by rw [tabC_len, List.length_replicate]; omega), List.range_succ, List.flatMap_append, List.drop_replicate, tabC_len]
      congr 1
      · congr 1
        · exact flatMap_cong fun i hi => by have := List.mem_range.1 hi; simp only [tabC, if_neg (show ¬ i = k by omega)]
        · simp [tabC]
      · congr 1; omega
    · by_cases hik : i = k
      · subst hik
        simp only [if_true]
        exact ⟨(hN.own.sub (Sub.rest _ _)).oth (u _) nb, fun x hx => ⟨hS.none (hoff x hx), nb x hx⟩⟩
      · simp only [if_neg hik]
        obtain ⟨q1, q2⟩ := hR i (by omega)
        exact ⟨(q1.sub hN.sub).oth (u _) fun x hx => (q2 x hx).2, q2⟩
    · by_cases ci : i = k
      · subst ci
        have cj : ¬ j = i := fun y => hij y.symm
        simp only [if_true, if_neg cj]
        exact fun x hx hy => (hR j (by omega)).1.on x hy (hoff x hx)
      · by_cases cj : j = k
        · subst cj
          simp only [if_true, if_neg ci]
          exact fun x hx hy => (hR i (by omega)).1.on x hx (hoff x hy)
        · simp only [if_neg ci, if_neg cj]
          exact hI i j (by omega) (by omega) hij
  · simp (maxSteps := 300000) (disch := omega) only [gs, gs2, gs3, gs4, ↓reduceIte, Nat.reduceEqDiff, Int.reduceToNat, Nat.reduceMul, Nat.reduceAdd, Nat.reduceBEq, isLd, e0, e3, e4, hkk]
    obtain rfl : k = ts.length := by omega
    rw [Nat.sub_self, Nat.zero_mul, List.replicate_zero, List.append_nil] at hBl
    refine hk (some ⟨b, 0, none⟩) H' G' (NewTS.mk' hS ⟨Own.blk hBl (cellsT_len _ _), fun i hi => (hR i hi).1, fun i hi x hx a ha => by cases ha; exact ((hR i hi).2 x hx).2, hI⟩ fun x hx => ?_)
    rcases hx with ⟨a, ha, rfl⟩ | ⟨i, hi, hx⟩
    · cases ha; exact hb
    · exact ((hR i hi).2 x hx).1
theorem laws_markTableS_ok {G : GH} {A : Option Addr} {c : Nat} {H : Nat → TH} {ts : List Tab} {k : Int} (h : OwnTS G A c H ts) (hsm : TsSm ts) (hk0 : 0 ≤ k ∧ k ≤ 2 ^ 28) {K : Value → GH → Prop}
    (hk : ∀ G', Oth (tsB A H ts) G G' → OwnTS G' A c H (mkTs k ts) → K (.int .i64 (k + preT ts ts.length)) G') : GC Try.prog 13 [.slice A ts.length c, .int .i64 k] G K := by
  refine c_laws_markTableS_i (by simp) ?_
  have hpm : ∀ i, i ≤ ts.length → preT ts i ≤ 2 ^ 20 := fun i hi => Nat.le_trans (preT_mono hi) hsm.p
  have hn := hsm.n
  simp (maxSteps := 300000) (disch := omega) only [gs, gs2, gs3, gs4, ↓reduceIte, Nat.reduceEqDiff, Int.reduceToNat, Nat.reduceMul, Nat.reduceAdd, Nat.reduceBEq, isLd]
  refine gLoop_intro (fun m T G' => ∃ i : Nat, T 0 = .slice A ts.length c ∧ T 1 = .int .i64 (k + preT ts i) ∧ T 5 = .int .i64 i ∧ m + i = ts.length ∧ i ≤ ts.length ∧ Oth (tsB A H ts) G G' ∧ OwnTS G' A c H (midT k ts i)) ts.length
    ⟨0, by simp (maxSteps := 300000) (disch := omega) only [gs, gs2, gs3, gs4, ↓reduceIte, Nat.reduceEqDiff, Int.reduceToNat, Nat.reduceMul, Nat.reduceAdd, Nat.reduceBEq, isLd], by simp (maxSteps := 300000) (disch := omega) only [gs, gs2, gs3, gs4, ↓reduceIte, Nat.reduceEqDiff, Int.reduceToNat, Nat.reduceMul, Nat.reduceAdd, Nat.reduceBEq, isLd] <;> simp [preT], by simp (maxSteps := 300000) (disch := omega) only [gs, gs2, gs3, gs4, ↓reduceIte, Nat.reduceEqDiff, Int.reduceToNat, Nat.reduceMul, Nat.reduceAdd, Nat.reduceBEq, isLd] <;> rfl, by omega, by omega, Oth.refl _ _, by rw [midT_zero]; exact h⟩ ?_
  rintro m T G' ⟨i, e0, e1, e5, hm, hil, hO, hW⟩
  simp (maxSteps := 300000) (disch := omega) only [gs, gs2, gs3, gs4, ↓reduceIte, Nat.reduceEqDiff, Int.reduceToNat, Nat.reduceMul, Nat.reduceAdd, Nat.reduceBEq, isLd, e0, e1, e5]
  by_cases hii : (i : Int) < ts.length
  · obtain ⟨t1, t2, t3⟩ := hsm.t i (by omega)
    have hT := hW.tabs
    have hmi : (midT k ts i).getD i t0 = ts.getD i t0 := by rw [midT_get (by omega), if_neg (by omega)]
    have i0 := hT.r0 i (by rw [midT_len]; omega)
    have i1 := hT.r1 i (by rw [midT_len]; omega)
    have hsn := hT.sn (by rw [midT_len]; omega)
    have hOt := hW.tab i (by rw [midT_len]; omega)
    rw [hmi] at i0 i1 hOt
    have hp := hpm i (by omega)
    have hp1 := hpm (i + 1) (by omega)
    have hps : preT ts (i + 1) = preT ts i + (ts.getD i t0).cols.length + pre (ts.getD i t0).rows (ts.getD i t0).rows.length := by show preT ts i + szT _ = _; unfold szT; omega
    simp (maxSteps := 300000) (disch := omega) only [gs, gs2, gs3, gs4, ↓reduceIte, Nat.reduceEqDiff, Int.reduceToNat, Nat.reduceMul, Nat.reduceAdd, Nat.reduceBEq, isLd, e0, e1, e5, hii, i0, i1]
    refine laws_markInt64S_ok hOt.cols (by omega) (by omega) fun G2 uu hw => ?_
    have u2 := uu.oth
    have hR2 : OwnR G2 (H i).B (H i).d (H i).hs (ts.getD i t0).rows := hOt.rows.oth u2 (fun b hb ⟨a, ha, hx⟩ => hOt.nB a b ha hb hx) fun l hl b hb ⟨a, ha, hx⟩ => hOt.nR l hl a b ha hb hx
    have nA : ∀ a b, A = some a → (H i).A = some b → a.block ≠ b.block := fun a b ha hb q => hW.ne i (by rw [midT_len]; omega) b.block (by rw [hmi]; exact .inl ⟨b, hb, rfl⟩) a ha q.symm
    have i0' : rd G2 (pa A (i * 2)) = some (.slice (H i).A (ts.getD i t0).cols.length (H i).c) := by
      have hout := hW.out.oth u2 fun b hb ⟨a, ha, hx⟩ => nA b a hb ha hx.symm
      have := hout.cells _ _ (cellsT_get (show i < (midT k ts i).length by rw [midT_len]; omega)).1
      rwa [hmi] at this
    have i1' : rd G2 (pa A (i * 2 + 1)) = some (.slice (H i).B (ts.getD i t0).rows.length (H i).d) := by
      have hout := hW.out.oth u2 fun b hb ⟨a, ha, hx⟩ => nA b a hb ha hx.symm
      have := hout.cells _ _ (cellsT_get (show i < (midT k ts i).length by rw [midT_len]; omega)).2
      rwa [hmi] at this
    simp (maxSteps := 300000) (disch := omega) only [gs, gs2, gs3, gs4, ↓reduceIte, Nat.reduceEqDiff, Int.reduceToNat, Nat.reduceMul, Nat.reduceAdd, Nat.reduceBEq, isLd, e0, e1, e5, hii, i0', i1']
    refine laws_markInt64SS_ok hR2 t2 (by omega) (by omega) fun G3 u3 hw3 => ?_
    simp (maxSteps := 300000) (disch := omega) only [gs, gs2, gs3, gs4, ↓reduceIte, Nat.reduceEqDiff, Int.reduceToNat, Nat.reduceMul, Nat.reduceAdd, Nat.reduceBEq, isLd, e0, e1, e5]
    have hc3 : Own G3 (H i).A (H i).c ((marks (k + preT ts i) (ts.getD i t0).cols.length).map I64) 1 (ts.getD i t0).cols.length := hw.oth u3 fun a ha ⟨l, hl, b, hb, hx⟩ => hOt.nR l hl a b ha hb hx.symm
    have uall : Oth (hB (H i) (ts.getD i t0).rows.length) G' G3 := (u2.mono fun x hx => .inl hx).trans (u3.mono fun x hx => .inr (.inr hx))
    have hO3 : OwnT G3 (mkT (k + preT ts i) (ts.getD i t0)) (H i).A (H i).c (H i).B (H i).d (H i).hs := by
      refine ⟨?_, hw3, hOt.nB, fun l hl => hOt.nR l (by rw [mkT_rows] at hl; exact hl)⟩
      exact hc3.cast rfl (mkT_cols _ _).symm
    have hmi1 : (midT k ts (i + 1)).getD i t0 = mkT (k + preT ts i) (ts.getD i t0) := by rw [midT_get (by omega), if_pos (by omega)]
    have hW3 : OwnTS G3 A c H (midT k ts (i + 1)) := by
      refine hW.over (i := i) (by rw [midT_len]; omega) (by rw [hmi]; exact uall) (by rw [midT_len, midT_len]) (by rw [hmi, hmi1, mkT_cols]) (by rw [hmi, hmi1, mkT_rows]) (fun j hj hji => ?_) (by rw [hmi1]; exact hO3)
      rw [midT_len] at hj
      rw [midT_get hj, midT_get hj]
      by_cases q : j < i
      · rw [if_pos q, if_pos (by omega)]
      · rw [if_neg q, if_neg (by omega)]
    exact ⟨m - 1, by omega, G3, Sub.refl _, i + 1, by rw [hps]; push_cast; congr 1; omega, rfl, by omega, by omega, hO.trans (uall.mono fun x hx => .inr ⟨i, by omega, hx⟩), hW3⟩
  · simp (maxSteps := 300000) (disch := omega) only [gs, gs2, gs3, gs4, ↓reduceIte, Nat.reduceEqDiff, Int.reduceToNat, Nat.reduceMul, Nat.reduceAdd, Nat.reduceBEq, isLd, e0, e1, e5, hii]
    obtain rfl : i = ts.length := by omega
    rw [midT_all] at hW
    exact hk G' hO hW
theorem laws_heldTableS_ok {G : GH} {A : Option Addr} {c : Nat} {H : Nat → TH} {ts : List Tab} {k : Int} (h : TabsS G A c H (mkTs k ts)) (hsm : TsSm ts) (hk0 : 0 ≤ k ∧ k ≤ 2 ^ 28) {K : Value → GH → Prop}
    (hk : K (.int .i64 (k + preT ts ts.length)) G) : GC Try.prog 14 [.slice A ts.length c, .int .i64 k] G K := by
  refine c_laws_heldTableS_i (by simp) ?_
  have hpm : ∀ i, i ≤ ts.length → preT ts i ≤ 2 ^ 20 := fun i hi => Nat.le_trans (preT_mono hi) hsm.p
  have hn := hsm.n
  simp (maxSteps := 300000) (disch := omega) only [gs, gs2, gs3, gs4, ↓reduceIte, Nat.reduceEqDiff, Int.reduceToNat, Nat.reduceMul, Nat.reduceAdd, Nat.reduceBEq, isLd]
  refine gLoop_intro (fun m T G' => ∃ i : Nat, T 0 = .slice A ts.length c ∧ T 1 = .int .i64 (k + preT ts i) ∧ T 5 = .int .i64 i ∧ m + i = ts.length ∧ i ≤ ts.length ∧ G' = G) ts.length
    ⟨0, by simp (maxSteps := 300000) (disch := omega) only [gs, gs2, gs3, gs4, ↓reduceIte, Nat.reduceEqDiff, Int.reduceToNat, Nat.reduceMul, Nat.reduceAdd, Nat.reduceBEq, isLd], by simp (maxSteps := 300000) (disch := omega) only [gs, gs2, gs3, gs4, ↓reduceIte, Nat.reduceEqDiff, Int.reduceToNat, Nat.reduceMul, Nat.reduceAdd, Nat.reduceBEq, isLd] <;> simp [preT], by simp (maxSteps := 300000) (disch := omega) only [gs, gs2, gs3, gs4, ↓reduceIte, Nat.reduceEqDiff, Int.reduceToNat, Nat.reduceMul, Nat.reduceAdd, Nat.reduceBEq, isLd] <;> rfl, by omega, by omega, rfl⟩ ?_
  rintro m T G' ⟨i, e0, e1, e5, hm, hil, rfl⟩
  simp (maxSteps := 300000) (disch := omega) only [gs, gs2, gs3, gs4, ↓reduceIte, Nat.reduceEqDiff, Int.reduceToNat, Nat.reduceMul, Nat.reduceAdd, Nat.reduceBEq, isLd, e0, e1, e5]
  by_cases hii : (i : Int) < ts.length
  · obtain ⟨t1, t2, t3⟩ := hsm.t i (by omega)
    have hmi : (mkTs k ts).getD i t0 = mkT (k + preT ts i) (ts.getD i t0) := mkTs_get (by omega)
    have i0 := h.r0 i (by rw [mkTs_len]; omega)
    have i1 := h.r1 i (by rw [mkTs_len]; omega)
    have hsn := h.sn (by rw [mkTs_len]; omega)
    have hc := h.cols i (by rw [mkTs_len]; omega)
    have hr := h.rows i (by rw [mkTs_len]; omega)
    rw [hmi] at i0 i1 hc hr
    rw [mkT_cols] at i0
    rw [mkT_rows] at i1
    have hp := hpm i (by omega)
    have hps : preT ts (i + 1) = preT ts i + (ts.getD i t0).cols.length + pre (ts.getD i t0).rows (ts.getD i t0).rows.length := by show preT ts i + szT _ = _; unfold szT; omega
    simp (maxSteps := 300000) (disch := omega) only [gs, gs2, gs3, gs4, ↓reduceIte, Nat.reduceEqDiff, Int.reduceToNat, Nat.reduceMul, Nat.reduceAdd, Nat.reduceBEq, isLd, e0, e1, e5, hii, i0, i1]
    refine laws_heldInt64S_ok (hc : IntS G' _ _ (marks (k + preT ts i) (ts.getD i t0).cols.length)) (by omega) (by omega) ?_
    simp (maxSteps := 300000) (disch := omega) only [gs, gs2, gs3, gs4, ↓reduceIte, Nat.reduceEqDiff, Int.reduceToNat, Nat.reduceMul, Nat.reduceAdd, Nat.reduceBEq, isLd, e0, e1, e5, hii, i0, i1, show (k + (preT ts i : Int) + ((ts.getD i t0).cols.length : Int) < 0) = False from eq_false (by omega)]
    refine laws_heldInt64SS_ok hr t2 (by omega) (by omega) ?_
    simp (maxSteps := 300000) (disch := omega) only [gs, gs2, gs3, gs4, ↓reduceIte, Nat.reduceEqDiff, Int.reduceToNat, Nat.reduceMul, Nat.reduceAdd, Nat.reduceBEq, isLd, e0, e1, e5, show (k + (preT ts i : Int) + ((ts.getD i t0).cols.length : Int) + (pre (ts.getD i t0).rows (ts.getD i t0).rows.length : Int) < 0) = False from eq_false (by omega)]
    exact ⟨m - 1, by omega, _, Sub.refl _, i + 1, by rw [hps]; push_cast; congr 1; omega, rfl, by omega, by omega, rfl⟩
  · simp (maxSteps := 300000) (disch := omega) only [gs, gs2, gs3, gs4, ↓reduceIte, Nat.reduceEqDiff, Int.reduceToNat, Nat.reduceMul, Nat.reduceAdd, Nat.reduceBEq, isLd, e0, e1, e5, hii]
    obtain rfl : i = ts.length := by omega
    exact hk
theorem preT_le {ts : List Tab} {M : Nat} (h : ∀ i, i < ts.length → szT (ts.getD i t0) ≤ M) : ∀ j, j ≤ ts.length → preT ts j ≤ M * j
  | 0, _ => Nat.zero_le _
  | j + 1, hj => by
    have := preT_le h j (by omega)
    have := h j (by omega)
    show preT ts j + _ ≤ M * (j + 1)
    rw [Nat.mul_succ]; omega
theorem tabOk_sz {t : Tab} (h : TabOk t) : TSm t ∧ szT t ≤ 2 ^ 8 := by
  obtain ⟨hr, hc, hn⟩ := h.rowL
  have h1 : ∀ i, i < t.rows.length → (t.rows.getD i []).length ≤ 8 := fun i hi => by have := hr i hi; omega
  have := pre_bd h1 _ (Nat.le_refl _)
  have : 8 * t.rows.length ≤ 8 * 24 := Nat.mul_le_mul_left _ hn
  refine ⟨⟨by omega, ⟨by omega, fun i hi => by have := h1 i hi; omega⟩, by omega⟩, ?_⟩
  unfold szT; omega
theorem tabsOk_sm {ts : List Tab} (h : TabsOk ts) : TsSm ts := by
  have h6 := h.1
  have := preT_le (fun i hi => (tabOk_sz (h.2 i hi)).2) ts.length (Nat.le_refl _)
  have : 2 ^ 8 * ts.length ≤ 2 ^ 8 * 6 := Nat.mul_le_mul_left _ h6
  exact ⟨by omega, fun i hi => (tabOk_sz (h.2 i hi)).1, by omega⟩
theorem red_sm (ts : List Tab) : TsSm (redV ts).1 := by
  by_cases h : TabsOk ts
  · rw [redV_yes h]; exact tabsOk_sm (redR_ok h)
  · rw [redV_no h]; exact ⟨by simp, fun i hi => by simp at hi, by simp [preT]⟩
theorem NewTS.tabs {G G' : GH} {A : Option Addr} {c : Nat} {H : Nat → TH} {ts : List Tab} (h : NewTS G G' A c H ts) : TabsS (Gh.rest G G') A c H ts := h.own.tabs
theorem rj_head {G : GH} {v0 : Value} {x0 : List Tab} {X : GCode} (h0 : TablesV G v0 x0)
    (hX : ∀ (T : Nat → Value) (A : Option Addr) (c : Nat) (H : Nat → TH), T 0 = .slice A x0.length c → TabsS G A c H x0 → TsSm x0 → gW Try.prog X (RetK [RV.t 2] fun v _ => v = .bool true) T G) :
    gW Try.prog (.seq (.reg c_laws_FnExactReduceTables_0) (.seq (.reg c_laws_FnExactReduceTables_1) (.seq (.reg c_laws_FnExactReduceTables_2) (.seq (.seq (.reg c_laws_FnExactReduceTables_3) (.cond (tt 18) (.seq (.reg c_laws_FnExactReduceTables_4) (.ret)) (.skip))) X)))) (RetK [RV.t 2] fun v _ => v = .bool true) (T0 [v0]) G := by
  obtain ⟨A, c, H, rfl, h, m0, n0⟩ := h0
  simp (maxSteps := 300000) (disch := omega) only [gs, gs2, gs3, gs4, ↓reduceIte, Nat.reduceEqDiff, Int.reduceToNat, Nat.reduceMul, Nat.reduceAdd, Nat.reduceBEq, isLd]
  refine laws_szTableS_ok3 h ⟨by omega, by omega⟩ m0 n0 fun q0 q0a q0b q0c => ?_
  simp (maxSteps := 300000) (disch := omega) only [gs, gs2, gs3, gs4, ↓reduceIte, Nat.reduceEqDiff, Int.reduceToNat, Nat.reduceMul, Nat.reduceAdd, Nat.reduceBEq, isLd]
  by_cases g0 : q0 < 0
  · simp (maxSteps := 300000) (disch := omega) only [gs, gs2, gs3, gs4, ↓reduceIte, Nat.reduceEqDiff, Int.reduceToNat, Nat.reduceMul, Nat.reduceAdd, Nat.reduceBEq, isLd, g0]
  simp (maxSteps := 300000) (disch := omega) only [gs, gs2, gs3, gs4, ↓reduceIte, Nat.reduceEqDiff, Int.reduceToNat, Nat.reduceMul, Nat.reduceAdd, Nat.reduceBEq, isLd, g0]
  exact hX _ A c H (by simp (maxSteps := 300000) (disch := omega) only [gs, gs2, gs3, gs4, ↓reduceIte, Nat.reduceEqDiff, Int.reduceToNat, Nat.reduceMul, Nat.reduceAdd, Nat.reduceBEq, isLd]) h (q0c (by omega))
theorem rj_mid {G : GH} {x0 : List Tab} {X : GCode} {T : Nat → Value} {A : Option Addr} {c : Nat} {H : Nat → TH} (e0 : T 0 = .slice A x0.length c) (hA : TabsS G A c H x0) (sm : TsSm x0)
    (hX : ∀ (T' : Nat → Value) (G6 Ga C0 C : GH) (Zw Zg : Option Addr) (zw zg : Nat) (Hw Hg : Nat → TH), T' 0 = .slice A x0.length c → T' 4 = .slice Zw (redV x0).1.length zw → T' 5 = .int .i64 (redV x0).2 → T' 7 = .slice Zg (redV x0).1.length zg → T' 8 = .int .i64 (redV x0).2 →
      Sub G G6 → TabsS G6 Zw zw Hw (redV x0).1 → Sub G6 Ga → NewTS Ga C0 Zg zg Hg (redV x0).1 → Sub G6 C → Sub (rest Ga C0) C → gW Try.prog X (RetK [RV.t 2] fun v _ => v = .bool true) T' C) :
    gW Try.prog (.seq (.reg c_laws_FnExactReduceTables_5) (.seq (.reg c_laws_FnExactReduceTables_6) (.seq (.reg c_laws_FnExactReduceTables_7) (.seq (.seq (.reg c_laws_FnExactReduceTables_8) (.cond (tt 40) (.seq (.reg c_laws_FnExactReduceTables_9) (.ret)) (.skip))) (.seq (.seq (.reg c_laws_FnExactReduceTables_10) (.cond (tt 45) (.seq (.reg c_laws_FnExactReduceTables_11) (.ret)) (.skip))) (.seq (.reg c_laws_FnExactReduceTables_12) (.seq (.reg c_laws_FnExactReduceTables_13) (.seq (.seq (.reg c_laws_FnExactReduceTables_14) (.cond (tt 61) (.seq (.reg c_laws_FnExactReduceTables_15) (.ret)) (.skip))) X)))))))) (RetK [RV.t 2] fun v _ => v = .bool true) T G := by
  have vs := red_sm x0
  have z0 : ((redV x0).2 = (redV x0).2) = True := eq_true rfl
  have nn : ∀ z : Int, 0 ≤ z → (z < 0) = False := fun z hz => eq_false (by omega)
  simp (maxSteps := 300000) (disch := omega) only [gs, gs2, gs3, gs4, ↓reduceIte, Nat.reduceEqDiff, Int.reduceToNat, Nat.reduceMul, Nat.reduceAdd, Nat.reduceBEq, isLd, e0]
  refine laws_toTableS_new hA sm.tabs fun A1 H1 G1 n1 => ?_
  simp (maxSteps := 300000) (disch := omega) only [gs, gs2, gs3, gs4, ↓reduceIte, Nat.reduceEqDiff, Int.reduceToNat, Nat.reduceMul, Nat.reduceAdd, Nat.reduceBEq, isLd, e0]
  refine spec_ReduceTables_ok n1.fresh.tabs sm.tabs fun G6 Zw zw Hw nw => ?_
  simp (maxSteps := 300000) (disch := omega) only [gs, gs2, gs3, gs4, ↓reduceIte, Nat.reduceEqDiff, Int.reduceToNat, Nat.reduceMul, Nat.reduceAdd, Nat.reduceBEq, isLd, e0]
  have s6 := n1.sub.trans nw.sub
  have tw := nw.fresh.tabs
  refine laws_toTableS_new (hA.sub s6) sm.tabs fun A2 H2 Ga na => ?_
  simp (maxSteps := 300000) (disch := omega) only [gs, gs2, gs3, gs4, ↓reduceIte, Nat.reduceEqDiff, Int.reduceToNat, Nat.reduceMul, Nat.reduceAdd, Nat.reduceBEq, isLd, e0]
  refine impl_ReduceTables_ok na.fresh.tabs sm.tabs fun C Zg zg Hg ng => ?_
  simp (maxSteps := 300000) (disch := omega) only [gs, gs2, gs3, gs4, ↓reduceIte, Nat.reduceEqDiff, Int.reduceToNat, Nat.reduceMul, Nat.reduceAdd, Nat.reduceBEq, isLd, e0]
  have sG := na.sub.trans ng.sub
  have sa : Sub (rest G6 Ga) C := (Sub.rest _ _).trans ng.sub
  have sg : Sub (rest Ga C) C := Sub.rest _ _
  refine laws_eqTableS_ok ng.fresh.tabs (tw.sub sG) vs.tabs fun z hz => ?_
  obtain rfl : z = true := hz.2 rfl
  simp (maxSteps := 300000) (disch := omega) only [gs, gs2, gs3, gs4, ↓reduceIte, Nat.reduceEqDiff, Int.reduceToNat, Nat.reduceMul, Nat.reduceAdd, Nat.reduceBEq, isLd, e0, z0]
  refine laws_toTableS_ok' ((hA.sub s6).sub sG) sm.tabs fun A3 H3 G3 s3 h3 => ?_
  simp (maxSteps := 300000) (disch := omega) only [gs, gs2, gs3, gs4, ↓reduceIte, Nat.reduceEqDiff, Int.reduceToNat, Nat.reduceMul, Nat.reduceAdd, Nat.reduceBEq, isLd, e0]
  refine laws_eqTableS_ok ((na.tabs.sub sa).sub s3) h3 sm.tabs fun z hz => ?_
  obtain rfl : z = true := hz.2 rfl
  simp (maxSteps := 300000) (disch := omega) only [gs, gs2, gs3, gs4, ↓reduceIte, Nat.reduceEqDiff, Int.reduceToNat, Nat.reduceMul, Nat.reduceAdd, Nat.reduceBEq, isLd, e0]
  have sG := sG.trans s3
  have sa := sa.trans s3
  have sg := sg.trans s3
  refine laws_markTableS_ok (na.own.sub sa) sm (by omega) fun G4 v1 _ => ?_
  have sG := v1.sub sG fun x hx => (na.off x hx).1
  have sg := v1.sub sg fun x hx => rest_no (na.off x hx).2
  simp (maxSteps := 300000) (disch := omega) only [gs, gs2, gs3, gs4, ↓reduceIte, Nat.reduceEqDiff, Int.reduceToNat, Nat.reduceMul, Nat.reduceAdd, Nat.reduceBEq, isLd, e0, nn]
  refine laws_eqTableS_ok (ng.tabs.sub sg) (tw.sub sG) vs.tabs fun z hz => ?_
  obtain rfl : z = true := hz.2 rfl
  simp (maxSteps := 300000) (disch := omega) only [gs, gs2, gs3, gs4, ↓reduceIte, Nat.reduceEqDiff, Int.reduceToNat, Nat.reduceMul, Nat.reduceAdd, Nat.reduceBEq, isLd, e0, z0]
  exact hX _ G6 Ga C G4 Zw Zg zw zg Hw Hg (by simp (maxSteps := 300000) (disch := omega) only [gs, gs2, gs3, gs4, ↓reduceIte, Nat.reduceEqDiff, Int.reduceToNat, Nat.reduceMul, Nat.reduceAdd, Nat.reduceBEq, isLd, e0]) (by simp (maxSteps := 300000) (disch := omega) only [gs, gs2, gs3, gs4, ↓reduceIte, Nat.reduceEqDiff, Int.reduceToNat, Nat.reduceMul, Nat.reduceAdd, Nat.reduceBEq, isLd]) (by simp (maxSteps := 300000) (disch := omega) only [gs, gs2, gs3, gs4, ↓reduceIte, Nat.reduceEqDiff, Int.reduceToNat, Nat.reduceMul, Nat.reduceAdd, Nat.reduceBEq, isLd]) (by simp (maxSteps := 300000) (disch := omega) only [gs, gs2, gs3, gs4, ↓reduceIte, Nat.reduceEqDiff, Int.reduceToNat, Nat.reduceMul, Nat.reduceAdd, Nat.reduceBEq, isLd]) (by simp (maxSteps := 300000) (disch := omega) only [gs, gs2, gs3, gs4, ↓reduceIte, Nat.reduceEqDiff, Int.reduceToNat, Nat.reduceMul, Nat.reduceAdd, Nat.reduceBEq, isLd]) s6 tw na.sub ng sG sg
theorem rj_tail {G : GH} {x0 : List Tab} {T : Nat → Value} {A : Option Addr} {c : Nat} {H : Nat → TH} {G6 Ga C0 C : GH} {Zw Zg : Option Addr} {zw zg : Nat} {Hw Hg : Nat → TH} (hA : TabsS G A c H x0) (sm : TsSm x0)
    (e0 : T 0 = .slice A x0.length c) (e4 : T 4 = .slice Zw (redV x0).1.length zw) (e5 : T 5 = .int .i64 (redV x0).2) (e7 : T 7 = .slice Zg (redV x0).1.length zg) (e8 : T 8 = .int .i64 (redV x0).2)
    (s6 : Sub G G6) (tw : TabsS G6 Zw zw Hw (redV x0).1) (sa : Sub G6 Ga) (ng : NewTS Ga C0 Zg zg Hg (redV x0).1) (sG : Sub G6 C) (sg : Sub (rest Ga C0) C) :
    gW Try.prog (.seq (.reg c_laws_FnExactReduceTables_16) (.seq (.reg c_laws_FnExactReduceTables_17) (.seq (.reg c_laws_FnExactReduceTables_18) (.seq (.reg c_laws_FnExactReduceTables_19) (.seq (.seq (.reg c_laws_FnExactReduceTables_20) (.cond (tt 69) (.seq (.reg c_laws_FnExactReduceTables_21) (.ret)) (.skip))) (.seq (.seq (.reg c_laws_FnExactReduceTables_22) (.cond (tt 72) (.seq (.reg c_laws_FnExactReduceTables_23) (.ret)) (.skip))) (.seq (.reg c_laws_FnExactReduceTables_24) (.seq (.seq (.reg c_laws_FnExactReduceTables_25) (.cond (tt 87) (.seq (.reg c_laws_FnExactReduceTables_26) (.ret)) (.skip))) (.seq (.reg c_laws_FnExactReduceTables_27) (.seq (.reg c_laws_FnExactReduceTables_28) (.seq (.seq (.reg c_laws_FnExactReduceTables_29) (.cond (tt 92) (.seq (.reg c_laws_FnExactReduceTables_30) (.ret)) (.skip))) (.seq (.seq (.reg c_laws_FnExactReduceTables_31) (.cond (tt 95) (.seq (.reg c_laws_FnExactReduceTables_32) (.ret)) (.skip))) (.seq (.reg c_laws_FnExactReduceTables_33) (.ret)))))))))))))) (RetK [RV.t 2] fun v _ => v = .bool true) T C := by
  have vs := red_sm x0
  have z0 : ((redV x0).2 = (redV x0).2) = True := eq_true rfl
  have nn : ∀ z : Int, 0 ≤ z → (z < 0) = False := fun z hz => eq_false (by omega)
  have zz : ((1 : Int) + (preT (redV x0).1 (redV x0).1.length : Int) = 1 + (preT (redV x0).1 (redV x0).1.length : Int)) = True := eq_true rfl
  simp (maxSteps := 300000) (disch := omega) only [gs, gs2, gs3, gs4, ↓reduceIte, Nat.reduceEqDiff, Int.reduceToNat, Nat.reduceMul, Nat.reduceAdd, Nat.reduceBEq, isLd, e0, e4, e5, e7, e8]
  refine laws_markTableS_ok (ng.own.sub sg) vs (by omega) fun G4 v1 hm => ?_
  have sG := v1.sub sG fun x hx => sa.none (ng.off x hx).1
  simp (maxSteps := 300000) (disch := omega) only [gs, gs2, gs3, gs4, ↓reduceIte, Nat.reduceEqDiff, Int.reduceToNat, Nat.reduceMul, Nat.reduceAdd, Nat.reduceBEq, isLd, e0, e4, e5, e7, e8]
  have hmt := hm.tabs
  have hheld := fun {G : GH} (h : TabsS G Zg zg Hg (mkTs 1 (redV x0).1)) (K : Value → GH → Prop) (hk) => laws_heldTableS_ok (k := 1) h vs (by omega) (K := K) hk
  refine hheld hmt _ ?_
  simp (maxSteps := 300000) (disch := omega) only [gs, gs2, gs3, gs4, ↓reduceIte, Nat.reduceEqDiff, Int.reduceToNat, Nat.reduceMul, Nat.reduceAdd, Nat.reduceBEq, isLd, e0, e4, e5, e7, e8, nn, zz]
  have hA6 := (hA.sub s6).sub sG
  refine laws_toTableS_new hA6 sm.tabs fun A1 H1 G1 n1 => ?_
  simp (maxSteps := 300000) (disch := omega) only [gs, gs2, gs3, gs4, ↓reduceIte, Nat.reduceEqDiff, Int.reduceToNat, Nat.reduceMul, Nat.reduceAdd, Nat.reduceBEq, isLd, e0, e4, e5, e7, e8]
  refine impl_ReduceTables_ok n1.fresh.tabs sm.tabs fun C2 Zh zh Hh nh => ?_
  simp (maxSteps := 300000) (disch := omega) only [gs, gs2, gs3, gs4, ↓reduceIte, Nat.reduceEqDiff, Int.reduceToNat, Nat.reduceMul, Nat.reduceAdd, Nat.reduceBEq, isLd, e0, e4, e5, e7, e8]
  have s2 := n1.sub.trans nh.sub
  refine laws_eqTableS_ok nh.fresh.tabs ((tw.sub sG).sub s2) vs.tabs fun z hz => ?_
  obtain rfl : z = true := hz.2 rfl
  simp (maxSteps := 300000) (disch := omega) only [gs, gs2, gs3, gs4, ↓reduceIte, Nat.reduceEqDiff, Int.reduceToNat, Nat.reduceMul, Nat.reduceAdd, Nat.reduceBEq, isLd, e0, e4, e5, e7, e8, z0]
  refine hheld (hmt.sub s2) _ ?_
  simp (maxSteps := 300000) (disch := omega) only [gs, gs2, gs3, gs4, ↓reduceIte, Nat.reduceEqDiff, Int.reduceToNat, Nat.reduceMul, Nat.reduceAdd, Nat.reduceBEq, isLd, e0, e4, e5, e7, e8, nn, zz]
theorem law_ReduceTables {G : GH} {v0 : Value} {x0 : List Tab} (h0 : TablesV G v0 x0) : GC Try.prog 3 [v0] G fun v _ => v = .bool true := by
  refine c_laws_FnExactReduceTables_i (by simp) ?_
  refine rj_head h0 fun T A c H e0 hA sm => ?_
  refine rj_mid e0 hA sm fun T' G6 Ga C0 C Zw Zg zw zg Hw Hg f0 f4 f5 f7 f8 s6 tw sa ng sG sg => ?_
  exact rj_tail hA sm f0 f4 f5 f7 f8 s6 tw sa ng sG sg

end Go.Proofs.Ytanpmilodaejpaa.Gh
