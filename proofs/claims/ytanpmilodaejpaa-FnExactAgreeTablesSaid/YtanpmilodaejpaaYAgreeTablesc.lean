/- What the functions that the law AgreeTables reaches return, and the law; it stands under no condition. -/
import Derived.Test.YtanpmilodaejpaaYAgreeTablesb
import Derived.Shelf.SlSortCmp.NoneTotal
import Derived.Lib.QuietBelow
namespace Go.Proofs.Ytanpmilodaejpaa.Gh
open Go Go.RowKit Go.Proofs
set_option linter.unusedVariables false
set_option linter.unusedSimpArgs false
set_option maxHeartbeats 4000000

theorem spec_l20Project_ok {G : GH} {q : Option Addr} {t : Tab} {A B W : Option Addr} {c d w : Nat} {hs : Nat → Option Addr × Nat} {wanted : List Int} (p2 : TabP G q t A c B d hs) (hw : IntS G W w wanted) (hmem : ∀ v ∈ wanted, v ∈ t.cols) (hl : t.cols.length < 2 ^ 30) (hl2 : wanted.length < 2 ^ 30) (rt : RowL t) (nt : t.rows.length < 2 ^ 18)
    {K : Value → GH → Prop} (hk : ∀ G' X x Y y hs'', NewT G G' (projT t wanted) X x Y y hs'' → K (tabV (projT t wanted) X x Y y) G') : GC Try.prog 32 [.pointer q, .slice W wanted.length w] G K := by
  refine GC_drop (c_spec_l20Project_i (by simp) ?_)
  have hq := rd_some p2.f0
  simp (maxSteps := 300000) (disch := omega) only [gs, gs2, gs3, gs4, ↓reduceIte, Nat.reduceEqDiff, Int.reduceToNat, Nat.reduceMul, Nat.reduceAdd, Nat.reduceBEq, isLd]
  intro b4 hb4
  have s4 := Sub.put hb4 ⟨[.slice none 0 0, .slice none 0 0], true⟩
  have g4 := put_same G b4 ⟨[.slice none 0 0, .slice none 0 0], true⟩
  have p2 := p2.sub s4
  have hw := hw.sub s4
  revert s4 p2 hw g4
  generalize put G b4 ⟨[.slice none 0 0, .slice none 0 0], true⟩ = G2
  intro s4 g4 p2 hw
  simp (maxSteps := 300000) (disch := omega) only [gs, gs2, gs3, gs4, ↓reduceIte, Nat.reduceEqDiff, Int.reduceToNat, Nat.reduceMul, Nat.reduceAdd, Nat.reduceBEq, isLd, p2.f0]
  refine spec_l00Own_ok hw (by omega) fun H A1 c1 hN1 => ?_
  have p2 := p2.sub hN1.sub
  have hw := hw.sub hN1.sub
  have g4' := hN1.sub _ _ g4
  simp (maxSteps := 300000) (disch := omega) only [gs, gs2, gs3, gs4, ↓reduceIte, Nat.reduceEqDiff, Int.reduceToNat, Nat.reduceMul, Nat.reduceAdd, Nat.reduceBEq, isLd, p2.f0, gBs]
  refine ⟨fun v hv => (by cases hv), fun bz hbz => ?_⟩
  have hbl : bldV [Value.slice none 0 0, Value.slice none 0 0] [(0, 1, Value.slice A1 wanted.length c1), (1, 1, Value.slice (some ⟨bz, 0, none⟩) 0 0)] = some [Value.slice A1 wanted.length c1, .slice (some ⟨bz, 0, none⟩) 0 0] := rfl
  simp (maxSteps := 300000) (disch := omega) only [gs, gs2, gs3, gs4, ↓reduceIte, Nat.reduceEqDiff, Int.reduceToNat, Nat.reduceMul, Nat.reduceAdd, Nat.reduceBEq, isLd, hbl]
  intro b5 hb5
  simp (maxSteps := 300000) (disch := omega) only [gs, gs2, gs3, gs4, ↓reduceIte, Nat.reduceEqDiff, Int.reduceToNat, Nat.reduceMul, Nat.reduceAdd, Nat.reduceBEq, isLd]
  refine st_fresh (vs := [.slice A1 wanted.length c1, .slice (some ⟨bz, 0, none⟩) 0 0]) rfl rfl rfl (by intro v hv; simp at hv; rcases hv with rfl | rfl <;> rfl) ?_
  have n5z : b5 ≠ bz := (put_none.1 hb5).1
  have hb5' : H b5 = none := (put_none.1 hb5).2
  have hX0 : SemG H (put (put H bz ⟨[], true⟩) b5 ⟨[.slice A1 wanted.length c1, .slice (some ⟨bz, 0, none⟩) 0 0], true⟩) b5 A1 wanted.length c1 (some ⟨bz, 0, none⟩) 0 (fun _ => (none, 0)) [] := by
    refine ⟨hb5', fun x e hx => ?_, ⟨.inr ⟨bz, [], rfl, by rw [put_ne _ _ n5z.symm]; exact put_same _ _ _, rfl, rfl, Nat.le_refl _⟩, fun i hi => by simp at hi, fun i hi => by simp at hi, fun i j hi => by simp at hi⟩, fun a ha => by cases ha; rw [put_ne _ _ n5z.symm]; exact hbz, fun i hi => by simp at hi⟩
    by_cases c : x = b5
    · subst c; rw [put_same] at hx ⊢; exact hx
    · rw [put_ne _ _ c] at hx ⊢
      rw [put_ne _ _ (fun y => by subst y; rw [hbz] at hx; cases hx)]; exact hx
  have hA1 : Own H A1 c1 (wanted.map I64) 1 wanted.length := hN1.fresh
  have sH := s4.trans hN1.sub
  have oA1 : Off G A1 := hN1.off.mono s4
  have n41 : ∀ x, A1 = some x → x.block ≠ b4 := fun x hx y => by have := hN1.off x hx; rw [y, g4] at this; cases this
  clear hN1 g4
  have e0 : (put (put H bz ⟨List.flatMap (fun v : Value => v.cells.toList) [], true⟩) b5 ⟨[.slice A1 wanted.length c1, .slice (some ⟨bz, 0, none⟩) 0 0], true⟩) = (put (put H bz ⟨[], true⟩) b5 ⟨[.slice A1 wanted.length c1, .slice (some ⟨bz, 0, none⟩) 0 0], true⟩) := rfl
  try rw [e0]
  generalize put (put H bz ⟨[], true⟩) b5 ⟨[.slice A1 wanted.length c1, .slice (some ⟨bz, 0, none⟩) 0 0], true⟩ = G3 at hX0 ⊢
  simp (maxSteps := 300000) (disch := omega) only [gs, gs2, gs3, gs4, ↓reduceIte, Nat.reduceEqDiff, Int.reduceToNat, Nat.reduceMul, Nat.reduceAdd, Nat.reduceBEq, isLd]
  refine gLoop_intro (fun m T G' => ∃ (k : Nat) (Z : Option Addr) (z : Nat) (hz : Nat → Option Addr × Nat), T 0 = .pointer q ∧ T 1 = .slice W wanted.length w ∧ T 4 = .pointer (some ⟨b4, 0, none⟩) ∧ T 5 = .pointer (some ⟨b5, 0, none⟩) ∧ T 6 = .int .i64 k ∧ m + k = t.rows.length ∧ k ≤ t.rows.length ∧
      SemG H G' b5 A1 wanted.length c1 Z z hz (srt ((t.rows.take k).map (prj t.cols wanted)))) t.rows.length
    ⟨0, _, 0, _, by simp (maxSteps := 300000) (disch := omega) only [gs, gs2, gs3, gs4, ↓reduceIte, Nat.reduceEqDiff, Int.reduceToNat, Nat.reduceMul, Nat.reduceAdd, Nat.reduceBEq, isLd], by simp (maxSteps := 300000) (disch := omega) only [gs, gs2, gs3, gs4, ↓reduceIte, Nat.reduceEqDiff, Int.reduceToNat, Nat.reduceMul, Nat.reduceAdd, Nat.reduceBEq, isLd], by simp (maxSteps := 300000) (disch := omega) only [gs, gs2, gs3, gs4, ↓reduceIte, Nat.reduceEqDiff, Int.reduceToNat, Nat.reduceMul, Nat.reduceAdd, Nat.reduceBEq, isLd], by simp (maxSteps := 300000) (disch := omega) only [gs, gs2, gs3, gs4, ↓reduceIte, Nat.reduceEqDiff, Int.reduceToNat, Nat.reduceMul, Nat.reduceAdd, Nat.reduceBEq, isLd], by simp (maxSteps := 300000) (disch := omega) only [gs, gs2, gs3, gs4, ↓reduceIte, Nat.reduceEqDiff, Int.reduceToNat, Nat.reduceMul, Nat.reduceAdd, Nat.reduceBEq, isLd] <;> rfl, by omega, by omega, hX0⟩ ?_
  clear hX0
  rintro m T G' ⟨k, Z, z, hz, e0, e1, e4, e5, e6, hm, hkl, hX⟩
  have q2 := p2.sub hX.low
  have hw3 := hw.sub hX.low
  simp (maxSteps := 300000) (disch := omega) only [gs, gs2, gs3, gs4, ↓reduceIte, Nat.reduceEqDiff, Int.reduceToNat, Nat.reduceMul, Nat.reduceAdd, Nat.reduceBEq, isLd, e0, e1, e4, e5, e6, q2.f1]
  have hlen : (srt ((t.rows.take k).map (prj t.cols wanted))).length ≤ k := Nat.le_trans (srt_len _) (by rw [List.length_map, List.length_take]; omega)
  by_cases hkk : (k : Int) < t.rows.length
  · have rk := q2.rows.r k (by omega)
    have hsB := q2.rows.sn (by omega)
    have hxl := rt k (by omega)
    have htk : srt ((t.rows.take (k + 1)).map (prj t.cols wanted)) = ins (prj t.cols wanted (t.rows.getD k [])) (srt ((t.rows.take k).map (prj t.cols wanted))) := by
      rw [map_take (d := []) (by omega), srt_snoc]
    simp (maxSteps := 300000) (disch := omega) only [gs, gs2, gs3, gs4, ↓reduceIte, Nat.reduceEqDiff, Int.reduceToNat, Nat.reduceMul, Nat.reduceAdd, Nat.reduceBEq, isLd, e0, e1, e4, e5, e6, q2.f1, hkk, gBs]
    refine ⟨fun v hv => (by cases hv), fun by' hby => ?_⟩
    refine gLoop_intro (fun m' T' G'' => ∃ (j : Nat) (Zr : Option Addr) (zr : Nat), T' 0 = .pointer q ∧ T' 1 = .slice W wanted.length w ∧ T' 4 = .pointer (some ⟨b4, 0, none⟩) ∧ T' 5 = .pointer (some ⟨b5, 0, none⟩) ∧ T' 6 = .int .i64 k ∧ T' 7 = .slice Zr j zr ∧ T' 8 = .int .i64 j ∧ m' + j = wanted.length ∧ j ≤ wanted.length ∧ Sub G' G'' ∧ Off G' Zr ∧ Own G'' Zr zr (((wanted.take j).map (cellAt t.cols (t.rows.getD k []))).map I64) 1 j) wanted.length
      ⟨0, some ⟨by', 0, none⟩, 0, by simp (maxSteps := 300000) (disch := omega) only [gs, gs2, gs3, gs4, ↓reduceIte, Nat.reduceEqDiff, Int.reduceToNat, Nat.reduceMul, Nat.reduceAdd, Nat.reduceBEq, isLd, e0], by simp (maxSteps := 300000) (disch := omega) only [gs, gs2, gs3, gs4, ↓reduceIte, Nat.reduceEqDiff, Int.reduceToNat, Nat.reduceMul, Nat.reduceAdd, Nat.reduceBEq, isLd, e1], by simp (maxSteps := 300000) (disch := omega) only [gs, gs2, gs3, gs4, ↓reduceIte, Nat.reduceEqDiff, Int.reduceToNat, Nat.reduceMul, Nat.reduceAdd, Nat.reduceBEq, isLd, e4], by simp (maxSteps := 300000) (disch := omega) only [gs, gs2, gs3, gs4, ↓reduceIte, Nat.reduceEqDiff, Int.reduceToNat, Nat.reduceMul, Nat.reduceAdd, Nat.reduceBEq, isLd, e5], by simp (maxSteps := 300000) (disch := omega) only [gs, gs2, gs3, gs4, ↓reduceIte, Nat.reduceEqDiff, Int.reduceToNat, Nat.reduceMul, Nat.reduceAdd, Nat.reduceBEq, isLd, e6], by simp (maxSteps := 300000) (disch := omega) only [gs, gs2, gs3, gs4, ↓reduceIte, Nat.reduceEqDiff, Int.reduceToNat, Nat.reduceMul, Nat.reduceAdd, Nat.reduceBEq, isLd] <;> rfl, by simp (maxSteps := 300000) (disch := omega) only [gs, gs2, gs3, gs4, ↓reduceIte, Nat.reduceEqDiff, Int.reduceToNat, Nat.reduceMul, Nat.reduceAdd, Nat.reduceBEq, isLd] <;> rfl, by omega, by omega, Sub.put hby _, fun a ha => (by cases ha; exact hby), Own.blk (put_same _ _ _) rfl⟩ ?_
    clear e0 e1 e4 e5 e6
    rintro m' T' G'' ⟨j, Zr, zr, e0, e1, e4, e5, e6, e7, e8, hm', hjl, hS, hO, hW⟩
    simp (maxSteps := 300000) (disch := omega) only [gs, gs2, gs3, gs4, ↓reduceIte, Nat.reduceEqDiff, Int.reduceToNat, Nat.reduceMul, Nat.reduceAdd, Nat.reduceBEq, isLd, e0, e1, e4, e5, e6, e7, e8]
    by_cases hjj : (j : Int) < wanted.length
    · have q4 := q2.sub hS
      have rw' := (hw3.sub hS).rd j (by omega)
      have hsw := (hw3.sub hS).sn (by omega)
      have rk4 := q4.rows.r k (by omega)
      simp (maxSteps := 300000) (disch := omega) only [gs, gs2, gs3, gs4, ↓reduceIte, Nat.reduceEqDiff, Int.reduceToNat, Nat.reduceMul, Nat.reduceAdd, Nat.reduceBEq, isLd, e0, e1, e4, e5, e6, e7, e8, hjj, hkk, q4.f0, q4.f1, rk4, rw']
      refine spec_l20Cell_ok q4.cols (q4.rows.row k (by omega)) hxl (by omega) fun w hw1 hw2 => ?_
      obtain rfl := hw1 (hmem _ (by simp [List.getD, show j < wanted.length by omega]))
      simp (maxSteps := 300000) (disch := omega) only [gs, gs2, gs3, gs4, ↓reduceIte, Nat.reduceEqDiff, Int.reduceToNat, Nat.reduceMul, Nat.reduceAdd, Nat.reduceBEq, isLd, e0, e1, e4, e5, e6, e7, e8, hjj, hkk, q4.f0, q4.f1, rk4, rw', gBs]
      refine ⟨fun v hv => (by simp at hv; subst hv; rfl), fun bs hbs => ?_⟩
      have sy := Sub.put hbs ⟨[I64 (cellAt t.cols (t.rows.getD k []) (wanted.getD j 0))], true⟩
      refine ⟨⟨rd_sub sy rw', rd_sub sy rk4, rd_sub sy q4.f1, rd_sub sy q4.f0⟩, ?_⟩
      refine ap_own (hW.sub sy) (news := [I64 (cellAt t.cols (t.rows.getD k []) (wanted.getD j 0))]) (m := 1) (cells_one _ true) rfl (by intro v hv; simp at hv; subst hv; rfl) rfl (by omega) (by omega) (by omega) fun G6 A6 c6 hW6 keep => ?_
      obtain ⟨hS6, hO6⟩ := keep G' (hS.trans sy) hO
      have q6 := q2.sub hS6
      simp (maxSteps := 300000) (disch := omega) only [gs, gs2, gs3, gs4, ↓reduceIte, Nat.reduceEqDiff, Int.reduceToNat, Nat.reduceMul, Nat.reduceAdd, Nat.reduceBEq, isLd, e0, e1, e4, e5, e6, e7, e8, q6.f0, q6.f1, q6.rows.r k (by omega), (hw3.sub hS6).rd j (by omega)]
      refine ⟨m' - 1, by omega, G6, Sub.refl _, j + 1, A6, c6, rfl, rfl, by omega, by omega, hS6, hO6, ?_⟩
      refine hW6.cast ?_ rfl
      rw [map_take (d := 0) (show j < wanted.length by omega), List.map_append]
      rfl
    · simp (maxSteps := 300000) (disch := omega) only [gs, gs2, gs3, gs4, ↓reduceIte, Nat.reduceEqDiff, Int.reduceToNat, Nat.reduceMul, Nat.reduceAdd, Nat.reduceBEq, isLd, e0, e1, e4, e5, e6, e7, e8, hjj]
      obtain rfl : j = wanted.length := by omega
      rw [List.take_length] at hW
      have f50 : rd G'' (some ⟨b5, 1, none⟩) = some (.slice Z (srt ((t.rows.take k).map (prj t.cols wanted))).length z) := rd_sub (hX.sub.trans hS) (rd_box _ _ _ 1 _ rfl)
      simp (maxSteps := 300000) (disch := omega) only [gs, gs2, gs3, gs4, ↓reduceIte, Nat.reduceEqDiff, Int.reduceToNat, Nat.reduceMul, Nat.reduceAdd, Nat.reduceBEq, isLd, e0, e1, e4, e5, e6, e7, e8, f50]
      have hX' := hX.up hS
      have hP : IntS G'' Zr zr (prj t.cols wanted (t.rows.getD k [])) := hW.ints' (prj_len _ _ _).symm
      rw [show Value.slice Zr wanted.length zr = Value.slice Zr (prj t.cols wanted (t.rows.getD k [])).length zr by rw [prj_len]]
      refine spec_l20Put_ok hX'.own (srt_asc _) hP (by omega) (fun i hi => ?_) (by rw [prj_len]; omega) fun G4 Z' z' hs' s4' hO4 oZ4 oR4 => ?_
      · have hm : (srt ((t.rows.take k).map (prj t.cols wanted))).getD i [] ∈ srt ((t.rows.take k).map (prj t.cols wanted)) := getD_memL hi
        rw [srt_mem] at hm
        obtain ⟨r, _, hr⟩ := List.mem_map.1 hm
        rw [← hr, prj_len]; omega
      simp (maxSteps := 300000) (disch := omega) only [gs, gs2, gs3, gs4, ↓reduceIte, Nat.reduceEqDiff, Int.reduceToNat, Nat.reduceMul, Nat.reduceAdd, Nat.reduceBEq, isLd, e0, e1, e4, e5, e6, e7, e8]
      refine hX'.repl s4' hO4 oZ4 oR4 fun G5 hX5 => ?_
      simp (maxSteps := 300000) (disch := omega) only [gs, gs2, gs3, gs4, ↓reduceIte, Nat.reduceEqDiff, Int.reduceToNat, Nat.reduceMul, Nat.reduceAdd, Nat.reduceBEq, isLd, e0, e1, e4, e5, e6]
      exact ⟨m - 1, by omega, G5, Sub.refl _, k + 1, Z', z', hs', rfl, by omega, by omega, by rw [htk]; exact hX5⟩
  · obtain rfl : k = t.rows.length := by omega
    rw [List.take_length] at hX
    have f50 : rd G' (some ⟨b5, 0, none⟩) = some (.slice A1 wanted.length c1) := rd_sub hX.sub (rd_box _ _ _ 0 _ rfl)
    have f51 : rd G' (some ⟨b5, 1, none⟩) = some (.slice Z (srt (t.rows.map (prj t.cols wanted))).length z) := rd_sub hX.sub (rd_box _ _ _ 1 _ rfl)
    simp (maxSteps := 300000) (disch := omega) only [gs, gs2, gs3, gs4, ↓reduceIte, Nat.reduceEqDiff, Int.reduceToNat, Nat.reduceMul, Nat.reduceAdd, Nat.reduceBEq, isLd, e0, e1, e4, e5, e6, q2.f1, hkk, f50, f51]
    refine st_many (vs := [.slice A1 wanted.length c1, .slice Z (srt (t.rows.map (prj t.cols wanted))).length z]) rfl (hX.low _ _ g4') rfl (by simp) (by intro v hv; simp at hv; rcases hv with rfl | rfl <;> rfl) ?_
    simp only [over, List.set_cons_zero, List.set_cons_succ]
    have k0 : rd (put G' b4 ⟨[.slice A1 wanted.length c1, .slice Z (srt (t.rows.map (prj t.cols wanted))).length z], true⟩) (some ⟨b4, 0, none⟩) = some (.slice A1 wanted.length c1) := rd_box _ _ _ 0 _ rfl
    have k1 : rd (put G' b4 ⟨[.slice A1 wanted.length c1, .slice Z (srt (t.rows.map (prj t.cols wanted))).length z], true⟩) (some ⟨b4, 1, none⟩) = some (.slice Z (srt (t.rows.map (prj t.cols wanted))).length z) := rd_box _ _ _ 1 _ rfl
    simp (maxSteps := 300000) (disch := omega) only [gs, gs2, gs3, gs4, ↓reduceIte, Nat.reduceEqDiff, Int.reduceToNat, Nat.reduceMul, Nat.reduceAdd, Nat.reduceBEq, isLd, e4, k0, k1]
    exact ⟨_, Sub.refl _, hk _ _ _ _ _ _ (hX.newT (N := projT t wanted) sH hA1 oA1 ((sH.trans hX.low).skip hb4) (Oth.put _ _ _) n41 (fun x hx => by subst hx; rw [g4']; simp))⟩
theorem comm_mem {a b : List Int} {v : Int} (h : v ∈ comm a b) : v ∈ a ∧ v ∈ b := by
  unfold comm at h
  rw [List.mem_filter] at h
  exact ⟨h.1, by simpa using h.2⟩
theorem projT_sh {t : Tab} {w : List Int} (nt : t.rows.length < 2 ^ 20) (hl : w.length < 2 ^ 30) : Sh (projT t w).rows := by
  refine ⟨by have := srt_len (t.rows.map (prj t.cols w)); rw [List.length_map] at this; show (srt _).length < _; omega, fun i hi => ?_⟩
  have hm : (srt (t.rows.map (prj t.cols w))).getD i [] ∈ srt (t.rows.map (prj t.cols w)) := by
    have hi' : i < (srt (t.rows.map (prj t.cols w))).length := hi
    simp [List.getD, hi']
  rw [srt_mem] at hm
  obtain ⟨r, _, hr⟩ := List.mem_map.1 hm
  show ((srt (t.rows.map (prj t.cols w))).getD i []).length < _
  rw [← hr, prj_len]; omega
/-- two tables that agree on their common columns. -/
def AgreeP (a b : Tab) : Prop := projT a (comm a.cols b.cols) = projT b (comm a.cols b.cols)
theorem impl_agree_ok {G : GH} {a b : Tab} {A B A' B' : Option Addr} {c d c' d' : Nat} {hs hs' : Nat → Option Addr × Nat} (h : IntS G A c a.cols) (hr : RowS G B d hs a.rows) (h' : IntS G A' c' b.cols) (hr' : RowS G B' d' hs' b.rows) (hl : a.cols.length < 2 ^ 30) (hl' : b.cols.length < 2 ^ 30) (ra : RowL a) (rb : RowL b) (na : a.rows.length < 2 ^ 20) (nb : b.rows.length < 2 ^ 20)
    {K : Value → GH → Prop} (hk : ∀ z : Bool, (z = true ↔ AgreeP a b) → K (.bool z) G) : GC Try.prog 47 [tabV a A c B d, tabV b A' c' B' d'] G K := by
  refine GC_drop (c_impl_agree_i (by simp) ?_)
  have fb : ∀ {G' : GH} {q : Nat} {N : Tab} {A B : Option Addr} {c d : Nat} {hs : Nat → Option Addr × Nat}, TabP G' (some ⟨q, 0, none⟩) N A c B d hs → rd G' (some ⟨q, 1, none⟩) = some (.slice B N.rows.length d) := fun h => by
    have := h.f1; rwa [pa_mk] at this
  unfold tabV tabC
  simp (maxSteps := 300000) (disch := omega) only [gs, gs2, gs3, gs4, ↓reduceIte, Nat.reduceEqDiff, Int.reduceToNat, Nat.reduceMul, Nat.reduceAdd, Nat.reduceBEq, isLd]
  intro b2 hb2
  have p2 := TabP.box hb2 h hr
  have s2 := Sub.put hb2 ⟨tabC a A c B d, true⟩
  unfold tabC at p2 s2
  simp (maxSteps := 300000) (disch := omega) only [gs, gs2, gs3, gs4, ↓reduceIte, Nat.reduceEqDiff, Int.reduceToNat, Nat.reduceMul, Nat.reduceAdd, Nat.reduceBEq, isLd]
  intro b3 hb3
  have p3 := TabP.box hb3 (h'.sub s2) (hr'.sub s2)
  have s3 := Sub.put hb3 ⟨tabC b A' c' B' d', true⟩
  unfold tabC at p3 s3
  have p2 := p2.sub s3
  have s1 := s2.trans s3
  revert s1 p2 p3
  generalize put (put G b2 ⟨[.slice A a.cols.length c, .slice B a.rows.length d], true⟩) b3 ⟨[.slice A' b.cols.length c', .slice B' b.rows.length d'], true⟩ = G1
  intro p3 p2 s1
  clear hb2 hb3 s2 s3
  simp (maxSteps := 300000) (disch := omega) only [gs, gs2, gs3, gs4, ↓reduceIte, Nat.reduceEqDiff, Int.reduceToNat, Nat.reduceMul, Nat.reduceAdd, Nat.reduceBEq, isLd, p2.f0, fb p2, p3.f0, fb p3]
  refine impl_commonColumns_ok p2.cols p3.cols hl hl' fun G2 D e hN => ?_
  have hcl := comm_len a.cols b.cols
  have hD := hN.ints
  have p2 := p2.sub hN.sub
  have p3 := p3.sub hN.sub
  have s1 := s1.trans hN.sub
  simp (maxSteps := 300000) (disch := omega) only [gs, gs2, gs3, gs4, ↓reduceIte, Nat.reduceEqDiff, Int.reduceToNat, Nat.reduceMul, Nat.reduceAdd, Nat.reduceBEq, isLd, p2.f0, fb p2, p3.f0, fb p3]
  refine impl_projected_ok p2.cols p2.rows hD (fun v hv => (comm_mem hv).1) hl (by omega) ra na fun G3 X x Y y hs3 h3 => ?_
  have p3' := p3.sub h3.sub
  have p2' := p2.sub h3.sub
  simp (maxSteps := 300000) (disch := omega) only [gs, gs2, gs3, gs4, ↓reduceIte, Nat.reduceEqDiff, Int.reduceToNat, Nat.reduceMul, Nat.reduceAdd, Nat.reduceBEq, isLd, p2'.f0, fb p2', p3'.f0, fb p3']
  refine impl_projected_ok p3'.cols p3'.rows (hD.sub h3.sub) (fun v hv => (comm_mem hv).2) hl' (by omega) rb nb fun G4 X' x' Y' y' hs4 h4 => ?_
  have p3' := p3'.sub h4.sub
  have p2' := p2'.sub h4.sub
  have o3 := (h3.own.sub (Sub.rest _ _)).sub h4.sub
  have o4 := h4.own.sub (Sub.rest _ _)
  simp (maxSteps := 300000) (disch := omega) only [gs, gs2, gs3, gs4, ↓reduceIte, Nat.reduceEqDiff, Int.reduceToNat, Nat.reduceMul, Nat.reduceAdd, Nat.reduceBEq, isLd, p2'.f0, fb p2', p3'.f0, fb p3']
  refine impl_SameTable_ok o3.cols.ints o3.rows.rows o4.cols.ints o4.rows.rows (by show (comm a.cols b.cols).length < _; omega) (projT_sh na (by omega)) fun z hz => ?_
  simp (maxSteps := 300000) (disch := omega) only [gs, gs2, gs3, gs4, ↓reduceIte, Nat.reduceEqDiff, Int.reduceToNat, Nat.reduceMul, Nat.reduceAdd, Nat.reduceBEq, isLd, p2'.f0, fb p2', p3'.f0, fb p3']
  exact ⟨G, s1.trans (h3.sub.trans h4.sub), hk z hz⟩
theorem impl_AgreeTables_ok {G : GH} {a b : Tab} {A B A' B' : Option Addr} {c d c' d' : Nat} {hs hs' : Nat → Option Addr × Nat} (h : IntS G A c a.cols) (hr : RowS G B d hs a.rows) (h' : IntS G A' c' b.cols) (hr' : RowS G B' d' hs' b.rows) (hl : a.cols.length < 2 ^ 40) (hl' : b.cols.length < 2 ^ 40) (ha : Sh a.rows) (hb : Sh b.rows)
    {K : Value → GH → Prop} (hk : ∀ z : Bool, (z = true ↔ TabOk a ∧ TabOk b ∧ AgreeP a b) → K (.bool z) G) : GC Try.prog 18 [tabV a A c B d, tabV b A' c' B' d'] G K := by
  refine GC_drop (c_impl_AgreeTables_i (by simp) ?_)
  have fb : ∀ {G' : GH} {q : Nat} {N : Tab} {A B : Option Addr} {c d : Nat} {hs : Nat → Option Addr × Nat}, TabP G' (some ⟨q, 0, none⟩) N A c B d hs → rd G' (some ⟨q, 1, none⟩) = some (.slice B N.rows.length d) := fun h => by
    have := h.f1; rwa [pa_mk] at this
  unfold tabV tabC
  simp (maxSteps := 300000) (disch := omega) only [gs, gs2, gs3, gs4, ↓reduceIte, Nat.reduceEqDiff, Int.reduceToNat, Nat.reduceMul, Nat.reduceAdd, Nat.reduceBEq, isLd]
  intro b2 hb2
  have p2 := TabP.box hb2 h hr
  have s2 := Sub.put hb2 ⟨tabC a A c B d, true⟩
  unfold tabC at p2 s2
  simp (maxSteps := 300000) (disch := omega) only [gs, gs2, gs3, gs4, ↓reduceIte, Nat.reduceEqDiff, Int.reduceToNat, Nat.reduceMul, Nat.reduceAdd, Nat.reduceBEq, isLd]
  intro b3 hb3
  have p3 := TabP.box hb3 (h'.sub s2) (hr'.sub s2)
  have s3 := Sub.put hb3 ⟨tabC b A' c' B' d', true⟩
  unfold tabC at p3 s3
  have p2 := p2.sub s3
  have s1 := s2.trans s3
  revert s1 p2 p3
  generalize put (put G b2 ⟨[.slice A a.cols.length c, .slice B a.rows.length d], true⟩) b3 ⟨[.slice A' b.cols.length c', .slice B' b.rows.length d'], true⟩ = G1
  intro p3 p2 s1
  clear hb2 hb3 s2 s3
  simp (maxSteps := 300000) (disch := omega) only [gs, gs2, gs3, gs4, ↓reduceIte, Nat.reduceEqDiff, Int.reduceToNat, Nat.reduceMul, Nat.reduceAdd, Nat.reduceBEq, isLd, p2.f0, fb p2]
  refine impl_ValidTable_ok p2.cols p2.rows hl ha fun z hz => ?_
  cases z
  · simp (maxSteps := 300000) (disch := omega) only [gs, gs2, gs3, gs4, ↓reduceIte, Nat.reduceEqDiff, Int.reduceToNat, Nat.reduceMul, Nat.reduceAdd, Nat.reduceBEq, isLd, p2.f0, fb p2, p3.f0, fb p3]
    exact ⟨G, s1, hk false (by constructor
                               · intro y; cases y
                               · intro y; exact hz.2 y.1)⟩
  have hoa := hz.1 rfl
  simp (maxSteps := 300000) (disch := omega) only [gs, gs2, gs3, gs4, ↓reduceIte, Nat.reduceEqDiff, Int.reduceToNat, Nat.reduceMul, Nat.reduceAdd, Nat.reduceBEq, isLd, p2.f0, fb p2, p3.f0, fb p3]
  refine impl_ValidTable_ok p3.cols p3.rows hl' hb fun z hz => ?_
  cases z
  · simp (maxSteps := 300000) (disch := omega) only [gs, gs2, gs3, gs4, ↓reduceIte, Nat.reduceEqDiff, Int.reduceToNat, Nat.reduceMul, Nat.reduceAdd, Nat.reduceBEq, isLd, p2.f0, fb p2, p3.f0, fb p3]
    exact ⟨G, s1, hk false (by constructor
                               · intro y; cases y
                               · intro y; exact hz.2 y.2.1)⟩
  have hob := hz.1 rfl
  obtain ⟨ra, ca, na⟩ := hoa.rowL
  obtain ⟨rb, cb, nb⟩ := hob.rowL
  simp (maxSteps := 300000) (disch := omega) only [gs, gs2, gs3, gs4, ↓reduceIte, Nat.reduceEqDiff, Int.reduceToNat, Nat.reduceMul, Nat.reduceAdd, Nat.reduceBEq, isLd, p2.f0, fb p2, p3.f0, fb p3]
  refine impl_agree_ok p2.cols p2.rows p3.cols p3.rows (by omega) (by omega) ra rb (by omega) (by omega) fun z hz => ?_
  simp (maxSteps := 300000) (disch := omega) only [gs, gs2, gs3, gs4, ↓reduceIte, Nat.reduceEqDiff, Int.reduceToNat, Nat.reduceMul, Nat.reduceAdd, Nat.reduceBEq, isLd]
  exact ⟨G, s1, hk z (hz.trans ⟨fun y => ⟨hoa, hob, y⟩, fun y => y.2.2⟩)⟩
theorem filt_take {xs : List Int} {P : Int → Bool} {k : Nat} (hk : k < xs.length) : (xs.take (k + 1)).filter P = if P (xs.getD k 0) = true then (xs.take k).filter P ++ [xs.getD k 0] else (xs.take k).filter P := by
  rw [List.take_succ_eq_append_getElem hk, List.filter_append]
  have : xs.getD k 0 = xs[k] := by simp [List.getD, hk]
  rw [this]
  split
  · next h => rw [List.filter_cons_of_pos h]; rfl
  · next h => rw [List.filter_cons_of_neg h]; simp
theorem spec_l20Agree_ok {G : GH} {q q' : Option Addr} {a b : Tab} {A B A' B' : Option Addr} {c d c' d' : Nat} {hs hs' : Nat → Option Addr × Nat} (p2 : TabP G q a A c B d hs) (p3 : TabP G q' b A' c' B' d' hs') (ha : TabOk a) (hb : TabOk b)
    {K : Value → GH → Prop} (hk : ∀ z : Bool, (z = true ↔ AgreeP a b) → K (.bool z) G) : GC Try.prog 44 [.pointer q, .pointer q'] G K := by
  refine GC_drop (c_spec_l20Agree_i (by simp) ?_)
  obtain ⟨ra, ca, na⟩ := ha.rowL
  obtain ⟨rb, cb, nb⟩ := hb.rowL
  have hq := rd_some p2.f0
  have hq' := rd_some p3.f0
  simp (maxSteps := 300000) (disch := omega) only [gs, gs2, gs3, gs4, ↓reduceIte, Nat.reduceEqDiff, Int.reduceToNat, Nat.reduceMul, Nat.reduceAdd, Nat.reduceBEq, isLd, gBs]
  refine ⟨fun v hv => (by cases hv), fun bz hbz => ?_⟩
  refine gLoop_intro (fun m T G' => ∃ (k : Nat) (Z : Option Addr) (z : Nat), T 0 = .pointer q ∧ T 1 = .pointer q' ∧ T 5 = .slice Z ((a.cols.take k).filter fun v => decide (v ∈ b.cols)).length z ∧ T 6 = .int .i64 k ∧ m + k = a.cols.length ∧ k ≤ a.cols.length ∧ Sub G G' ∧ Off G Z ∧
      Own G' Z z (((a.cols.take k).filter fun v => decide (v ∈ b.cols)).map I64) 1 ((a.cols.take k).filter fun v => decide (v ∈ b.cols)).length) a.cols.length
    ⟨0, some ⟨bz, 0, none⟩, 0, by simp (maxSteps := 300000) (disch := omega) only [gs, gs2, gs3, gs4, ↓reduceIte, Nat.reduceEqDiff, Int.reduceToNat, Nat.reduceMul, Nat.reduceAdd, Nat.reduceBEq, isLd], by simp (maxSteps := 300000) (disch := omega) only [gs, gs2, gs3, gs4, ↓reduceIte, Nat.reduceEqDiff, Int.reduceToNat, Nat.reduceMul, Nat.reduceAdd, Nat.reduceBEq, isLd], by simp (maxSteps := 300000) (disch := omega) only [gs, gs2, gs3, gs4, ↓reduceIte, Nat.reduceEqDiff, Int.reduceToNat, Nat.reduceMul, Nat.reduceAdd, Nat.reduceBEq, isLd] <;> rfl, by simp (maxSteps := 300000) (disch := omega) only [gs, gs2, gs3, gs4, ↓reduceIte, Nat.reduceEqDiff, Int.reduceToNat, Nat.reduceMul, Nat.reduceAdd, Nat.reduceBEq, isLd] <;> rfl, by omega, by omega, Sub.put hbz _, fun a ha => (by cases ha; exact hbz), Own.blk (put_same _ _ _) rfl⟩ ?_
  rintro m T G' ⟨k, Z, z, e0, e1, e5, e6, hm, hkl, hS, hO, hW⟩
  have q2 := p2.sub hS
  have q3 := p3.sub hS
  simp (maxSteps := 300000) (disch := omega) only [gs, gs2, gs3, gs4, ↓reduceIte, Nat.reduceEqDiff, Int.reduceToNat, Nat.reduceMul, Nat.reduceAdd, Nat.reduceBEq, isLd, e0, e1, e5, e6, q2.f0]
  have hlen : ((a.cols.take k).filter fun v => decide (v ∈ b.cols)).length ≤ k := Nat.le_trans (List.length_filter_le _ _) (by rw [List.length_take]; omega)
  by_cases hkk : (k : Int) < a.cols.length
  · have rk := q2.cols.rd k (by omega)
    have hsc := q2.cols.sn (by omega)
    have hft := filt_take (xs := a.cols) (P := fun v => decide (v ∈ b.cols)) (k := k) (by omega)
    simp (maxSteps := 300000) (disch := omega) only [gs, gs2, gs3, gs4, ↓reduceIte, Nat.reduceEqDiff, Int.reduceToNat, Nat.reduceMul, Nat.reduceAdd, Nat.reduceBEq, isLd, e0, e1, e5, e6, q2.f0, q3.f0, hkk, rk]
    refine spec_l00Has_ok q3.cols (by omega) fun w hw => ?_
    cases w
    · rw [if_neg (by simpa using fun y => by have := hw.2 y; cases this)] at hft
      simp (maxSteps := 300000) (disch := omega) only [gs, gs2, gs3, gs4, ↓reduceIte, Nat.reduceEqDiff, Int.reduceToNat, Nat.reduceMul, Nat.reduceAdd, Nat.reduceBEq, isLd, e0, e1, e5, e6, q2.f0, q3.f0, hkk, rk]
      exact ⟨m - 1, by omega, G', Sub.refl _, k + 1, Z, z, by rw [hft], rfl, by omega, by omega, hS, hO, by rw [hft]; exact hW⟩
    · rw [if_pos (by simpa using hw.1 rfl)] at hft
      simp (maxSteps := 300000) (disch := omega) only [gs, gs2, gs3, gs4, ↓reduceIte, Nat.reduceEqDiff, Int.reduceToNat, Nat.reduceMul, Nat.reduceAdd, Nat.reduceBEq, isLd, e0, e1, e5, e6, q2.f0, q3.f0, hkk, rk, gBs]
      refine ⟨fun v hv => (by simp at hv; subst hv; rfl), fun bs hbs => ?_⟩
      have sy := Sub.put hbs ⟨[I64 (a.cols.getD k 0)], true⟩
      refine ap_own (hW.sub sy) (news := [I64 (a.cols.getD k 0)]) (m := 1) (cells_one _ true) rfl (by intro v hv; simp at hv; subst hv; rfl) rfl (by omega) (by omega) (by omega) fun G6 A6 c6 hW6 keep => ?_
      obtain ⟨hS6, hO6⟩ := keep G (hS.trans sy) hO
      simp (maxSteps := 300000) (disch := omega) only [gs, gs2, gs3, gs4, ↓reduceIte, Nat.reduceEqDiff, Int.reduceToNat, Nat.reduceMul, Nat.reduceAdd, Nat.reduceBEq, isLd, e0, e1, e5, e6]
      refine ⟨m - 1, by omega, G6, Sub.refl _, k + 1, A6, c6, by rw [hft, List.length_append]; rfl, rfl, by omega, by omega, hS6, hO6, ?_⟩
      rw [hft]
      exact hW6.cast (by simp) (by simp)
  · obtain rfl : k = a.cols.length := by omega
    rw [List.take_length] at e5 hW hlen
    have hc : (a.cols.filter fun v => decide (v ∈ b.cols)) = comm a.cols b.cols := rfl
    rw [hc] at e5 hW hlen
    simp (maxSteps := 300000) (disch := omega) only [gs, gs2, gs3, gs4, ↓reduceIte, Nat.reduceEqDiff, Int.reduceToNat, Nat.reduceMul, Nat.reduceAdd, Nat.reduceBEq, isLd, e0, e1, e5, e6, q2.f0, q3.f0, hkk]
    refine spec_l20Project_ok q2 hW.ints (fun v hv => (comm_mem hv).1) (by omega) (by omega) ra (by omega) fun G3 X x Y y hs3 h3 => ?_
    unfold tabV tabC
    simp (maxSteps := 300000) (disch := omega) only [gs, gs2, gs3, gs4, ↓reduceIte, Nat.reduceEqDiff, Int.reduceToNat, Nat.reduceMul, Nat.reduceAdd, Nat.reduceBEq, isLd]
    intro b7 hb7
    simp (maxSteps := 300000) (disch := omega) only [gs, gs2, gs3, gs4, ↓reduceIte, Nat.reduceEqDiff, Int.reduceToNat, Nat.reduceMul, Nat.reduceAdd, Nat.reduceBEq, isLd]
    refine st_fresh (vs := [.slice X (projT a (comm a.cols b.cols)).cols.length x, .slice Y (projT a (comm a.cols b.cols)).rows.length y]) rfl rfl rfl (by intro v hv; simp at hv; rcases hv with rfl | rfl <;> rfl) ?_
    have o3 := h3.own.sub (Sub.rest _ _)
    have p7 := TabP.box hb7 o3.cols.ints o3.rows.rows
    have s7 := h3.sub.trans (Sub.put hb7 ⟨tabC (projT a (comm a.cols b.cols)) X x Y y, true⟩)
    unfold tabC at p7 s7
    revert p7 s7
    generalize put G3 b7 ⟨[.slice X (projT a (comm a.cols b.cols)).cols.length x, .slice Y (projT a (comm a.cols b.cols)).rows.length y], true⟩ = G4
    intro p7 s7
    simp (maxSteps := 300000) (disch := omega) only [gs, gs2, gs3, gs4, ↓reduceIte, Nat.reduceEqDiff, Int.reduceToNat, Nat.reduceMul, Nat.reduceAdd, Nat.reduceBEq, isLd, e0, e1, e5, e6]
    refine spec_l20Project_ok (q3.sub s7) (hW.ints.sub s7) (fun v hv => (comm_mem hv).2) (by omega) (by omega) rb (by omega) fun G5 X' x' Y' y' hs5 h5 => ?_
    unfold tabV tabC
    simp (maxSteps := 300000) (disch := omega) only [gs, gs2, gs3, gs4, ↓reduceIte, Nat.reduceEqDiff, Int.reduceToNat, Nat.reduceMul, Nat.reduceAdd, Nat.reduceBEq, isLd]
    intro b8 hb8
    simp (maxSteps := 300000) (disch := omega) only [gs, gs2, gs3, gs4, ↓reduceIte, Nat.reduceEqDiff, Int.reduceToNat, Nat.reduceMul, Nat.reduceAdd, Nat.reduceBEq, isLd]
    refine st_fresh (vs := [.slice X' (projT b (comm a.cols b.cols)).cols.length x', .slice Y' (projT b (comm a.cols b.cols)).rows.length y']) rfl rfl rfl (by intro v hv; simp at hv; rcases hv with rfl | rfl <;> rfl) ?_
    have o5 := h5.own.sub (Sub.rest _ _)
    have p8 := TabP.box hb8 o5.cols.ints o5.rows.rows
    have s8 := h5.sub.trans (Sub.put hb8 ⟨tabC (projT b (comm a.cols b.cols)) X' x' Y' y', true⟩)
    unfold tabC at p8 s8
    revert p8 s8
    generalize put G5 b8 ⟨[.slice X' (projT b (comm a.cols b.cols)).cols.length x', .slice Y' (projT b (comm a.cols b.cols)).rows.length y'], true⟩ = G6
    intro p8 s8
    simp (maxSteps := 300000) (disch := omega) only [gs, gs2, gs3, gs4, ↓reduceIte, Nat.reduceEqDiff, Int.reduceToNat, Nat.reduceMul, Nat.reduceAdd, Nat.reduceBEq, isLd]
    refine spec_l20Same_ok (p7.sub s8) p8 (by show (comm a.cols b.cols).length < _; omega) (projT_sh (by omega) (by omega)) fun z hz => ?_
    simp (maxSteps := 300000) (disch := omega) only [gs, gs2, gs3, gs4, ↓reduceIte, Nat.reduceEqDiff, Int.reduceToNat, Nat.reduceMul, Nat.reduceAdd, Nat.reduceBEq, isLd]
    exact ⟨G, hS.trans (s7.trans s8), hk z hz⟩
theorem spec_AgreeTables_ok {G : GH} {a b : Tab} {A B A' B' : Option Addr} {c d c' d' : Nat} {hs hs' : Nat → Option Addr × Nat} (h : IntS G A c a.cols) (hr : RowS G B d hs a.rows) (h' : IntS G A' c' b.cols) (hr' : RowS G B' d' hs' b.rows) (hl : a.cols.length < 2 ^ 40) (hl' : b.cols.length < 2 ^ 40) (ha : Sh a.rows) (hb : Sh b.rows)
    {K : Value → GH → Prop} (hk : ∀ z : Bool, (z = true ↔ TabOk a ∧ TabOk b ∧ AgreeP a b) → K (.bool z) G) : GC Try.prog 16 [tabV a A c B d, tabV b A' c' B' d'] G K := by
  refine GC_drop (c_spec_AgreeTables_i (by simp) ?_)
  unfold tabV tabC
  simp (maxSteps := 300000) (disch := omega) only [gs, gs2, gs3, gs4, ↓reduceIte, Nat.reduceEqDiff, Int.reduceToNat, Nat.reduceMul, Nat.reduceAdd, Nat.reduceBEq, isLd]
  intro b2 hb2
  have p2 := TabP.box hb2 h hr
  have s2 := Sub.put hb2 ⟨tabC a A c B d, true⟩
  unfold tabC at p2 s2
  simp (maxSteps := 300000) (disch := omega) only [gs, gs2, gs3, gs4, ↓reduceIte, Nat.reduceEqDiff, Int.reduceToNat, Nat.reduceMul, Nat.reduceAdd, Nat.reduceBEq, isLd]
  intro b3 hb3
  have p3 := TabP.box hb3 (h'.sub s2) (hr'.sub s2)
  have s3 := Sub.put hb3 ⟨tabC b A' c' B' d', true⟩
  unfold tabC at p3 s3
  have p2 := p2.sub s3
  have s1 := s2.trans s3
  revert s1 p2 p3
  generalize put (put G b2 ⟨[.slice A a.cols.length c, .slice B a.rows.length d], true⟩) b3 ⟨[.slice A' b.cols.length c', .slice B' b.rows.length d'], true⟩ = G1
  intro p3 p2 s1
  clear hb2 hb3 s2 s3
  simp (maxSteps := 300000) (disch := omega) only [gs, gs2, gs3, gs4, ↓reduceIte, Nat.reduceEqDiff, Int.reduceToNat, Nat.reduceMul, Nat.reduceAdd, Nat.reduceBEq, isLd]
  refine spec_l20Ok_ok p2 hl ha fun z hz => ?_
  cases z
  · simp (maxSteps := 300000) (disch := omega) only [gs, gs2, gs3, gs4, ↓reduceIte, Nat.reduceEqDiff, Int.reduceToNat, Nat.reduceMul, Nat.reduceAdd, Nat.reduceBEq, isLd]
    exact ⟨G, s1, hk false (by constructor
                               · intro y; cases y
                               · intro y; exact hz.2 y.1)⟩
  have hoa := hz.1 rfl
  simp (maxSteps := 300000) (disch := omega) only [gs, gs2, gs3, gs4, ↓reduceIte, Nat.reduceEqDiff, Int.reduceToNat, Nat.reduceMul, Nat.reduceAdd, Nat.reduceBEq, isLd]
  refine spec_l20Ok_ok p3 hl' hb fun z hz => ?_
  cases z
  · simp (maxSteps := 300000) (disch := omega) only [gs, gs2, gs3, gs4, ↓reduceIte, Nat.reduceEqDiff, Int.reduceToNat, Nat.reduceMul, Nat.reduceAdd, Nat.reduceBEq, isLd]
    exact ⟨G, s1, hk false (by constructor
                               · intro y; cases y
                               · intro y; exact hz.2 y.2.1)⟩
  have hob := hz.1 rfl
  simp (maxSteps := 300000) (disch := omega) only [gs, gs2, gs3, gs4, ↓reduceIte, Nat.reduceEqDiff, Int.reduceToNat, Nat.reduceMul, Nat.reduceAdd, Nat.reduceBEq, isLd]
  refine spec_l20Agree_ok p2 p3 hoa hob fun z hz => ?_
  simp (maxSteps := 300000) (disch := omega) only [gs, gs2, gs3, gs4, ↓reduceIte, Nat.reduceEqDiff, Int.reduceToNat, Nat.reduceMul, Nat.reduceAdd, Nat.reduceBEq, isLd]
  exact ⟨G, s1, hk z (hz.trans ⟨fun y => ⟨hoa, hob, y⟩, fun y => y.2.2⟩)⟩
theorem law_AgreeTables {G : GH} {v0 : Value} {v1 : Value} {x0 : Tab} {x1 : Tab} (h0 : TableV G v0 x0) (h1 : TableV G v1 x1) : GC Try.prog 4 [v0, v1] G fun v _ => v = .bool true := by
  obtain ⟨A0, c0, B0, d0, H0, rfl, h0, k0, l0, m0, n0, e0, ee0⟩ := h0
  obtain ⟨A1, c1, B1, d1, H1, rfl, h1, k1, l1, m1, n1, e1, ee1⟩ := h1
  refine c_laws_FnExactAgreeTables_i (by simp) ?_
  unfold tabV tabC
  simp (maxSteps := 300000) (disch := omega) only [gs, gs2, gs3, gs4, ↓reduceIte, Nat.reduceEqDiff, Int.reduceToNat, Nat.reduceMul, Nat.reduceAdd, Nat.reduceBEq, isLd]
  intro p0 hp0
  generalize hG1 : put G p0 ⟨[.slice A0 x0.cols.length c0, .slice B0 x0.rows.length d0], true⟩ = G1
  have s1 : Sub G G1 := hG1 ▸ Sub.put hp0 _
  have h0 := h0.sub s1
  have k0 := k0.sub s1
  have h1 := h1.sub s1
  have k1 := k1.sub s1
  have fa0_0 : rd G1 (some ⟨p0, 0, none⟩) = some (.slice A0 x0.cols.length c0) := by rw [← hG1]; exact rd_box _ _ _ 0 _ rfl
  have fa0_1 : rd G1 (some ⟨p0, 1, none⟩) = some (.slice B0 x0.rows.length d0) := by rw [← hG1]; exact rd_box _ _ _ 1 _ rfl
  simp (maxSteps := 300000) (disch := omega) only [gs, gs2, gs3, gs4, ↓reduceIte, Nat.reduceEqDiff, Int.reduceToNat, Nat.reduceMul, Nat.reduceAdd, Nat.reduceBEq, isLd, fa0_0, fa0_1]
  intro p1 hp1
  generalize hG2 : put G1 p1 ⟨[.slice A1 x1.cols.length c1, .slice B1 x1.rows.length d1], true⟩ = G2
  have s2 : Sub G1 G2 := hG2 ▸ Sub.put hp1 _
  have h0 := h0.sub s2
  have k0 := k0.sub s2
  have h1 := h1.sub s2
  have k1 := k1.sub s2
  have fa0_0 := rd_sub s2 fa0_0
  have fa0_1 := rd_sub s2 fa0_1
  have fa1_0 : rd G2 (some ⟨p1, 0, none⟩) = some (.slice A1 x1.cols.length c1) := by rw [← hG2]; exact rd_box _ _ _ 0 _ rfl
  have fa1_1 : rd G2 (some ⟨p1, 1, none⟩) = some (.slice B1 x1.rows.length d1) := by rw [← hG2]; exact rd_box _ _ _ 1 _ rfl
  simp (maxSteps := 300000) (disch := omega) only [gs, gs2, gs3, gs4, ↓reduceIte, Nat.reduceEqDiff, Int.reduceToNat, Nat.reduceMul, Nat.reduceAdd, Nat.reduceBEq, isLd, fa0_0, fa0_1, fa1_0, fa1_1]
  refine laws_szTable_ok (N := x0) k0 ⟨by omega, by omega⟩ l0 m0 n0 fun q0 q0a q0b q0c => ?_
  simp (maxSteps := 300000) (disch := omega) only [gs, gs2, gs3, gs4, ↓reduceIte, Nat.reduceEqDiff, Int.reduceToNat, Nat.reduceMul, Nat.reduceAdd, Nat.reduceBEq, isLd, fa0_0, fa0_1, fa1_0, fa1_1]
  by_cases g0 : q0 < 0
  · simp (maxSteps := 300000) (disch := omega) only [gs, gs2, gs3, gs4, ↓reduceIte, Nat.reduceEqDiff, Int.reduceToNat, Nat.reduceMul, Nat.reduceAdd, Nat.reduceBEq, isLd, g0, fa0_0, fa0_1, fa1_0, fa1_1]
  simp (maxSteps := 300000) (disch := omega) only [gs, gs2, gs3, gs4, ↓reduceIte, Nat.reduceEqDiff, Int.reduceToNat, Nat.reduceMul, Nat.reduceAdd, Nat.reduceBEq, isLd, g0, fa0_0, fa0_1, fa1_0, fa1_1]
  obtain ⟨y0, w0, z0⟩ := q0c (by omega)
  refine laws_szTable_ok (N := x1) k1 ⟨by omega, by omega⟩ l1 m1 n1 fun q1 q1a q1b q1c => ?_
  simp (maxSteps := 300000) (disch := omega) only [gs, gs2, gs3, gs4, ↓reduceIte, Nat.reduceEqDiff, Int.reduceToNat, Nat.reduceMul, Nat.reduceAdd, Nat.reduceBEq, isLd, fa0_0, fa0_1, fa1_0, fa1_1]
  by_cases g1 : q1 < 0
  · simp (maxSteps := 300000) (disch := omega) only [gs, gs2, gs3, gs4, ↓reduceIte, Nat.reduceEqDiff, Int.reduceToNat, Nat.reduceMul, Nat.reduceAdd, Nat.reduceBEq, isLd, g1, fa0_0, fa0_1, fa1_0, fa1_1]
  simp (maxSteps := 300000) (disch := omega) only [gs, gs2, gs3, gs4, ↓reduceIte, Nat.reduceEqDiff, Int.reduceToNat, Nat.reduceMul, Nat.reduceAdd, Nat.reduceBEq, isLd, g1, fa0_0, fa0_1, fa1_0, fa1_1]
  obtain ⟨y1, w1, z1⟩ := q1c (by omega)
  refine laws_toTable_ok' (N := x0) h0 k0 (by omega) z0 fun As0 Bs0 Hs0 G3 s3 hs0 ks0 => ?_
  have h0 := h0.sub s3
  have k0 := k0.sub s3
  have h1 := h1.sub s3
  have k1 := k1.sub s3
  have fa0_0 := rd_sub s3 fa0_0
  have fa0_1 := rd_sub s3 fa0_1
  have fa1_0 := rd_sub s3 fa1_0
  have fa1_1 := rd_sub s3 fa1_1
  simp (maxSteps := 300000) (disch := omega) only [gs, gs2, gs3, gs4, ↓reduceIte, Nat.reduceEqDiff, Int.reduceToNat, Nat.reduceMul, Nat.reduceAdd, Nat.reduceBEq, isLd, fa0_0, fa0_1, fa1_0, fa1_1]
  refine laws_toTable_ok' (N := x1) h1 k1 (by omega) z1 fun As1 Bs1 Hs1 G4 s4 hs1 ks1 => ?_
  have h0 := h0.sub s4
  have k0 := k0.sub s4
  have h1 := h1.sub s4
  have k1 := k1.sub s4
  have hs0 := hs0.sub s4
  have ks0 := ks0.sub s4
  have fa0_0 := rd_sub s4 fa0_0
  have fa0_1 := rd_sub s4 fa0_1
  have fa1_0 := rd_sub s4 fa1_0
  have fa1_1 := rd_sub s4 fa1_1
  simp (maxSteps := 300000) (disch := omega) only [gs, gs2, gs3, gs4, ↓reduceIte, Nat.reduceEqDiff, Int.reduceToNat, Nat.reduceMul, Nat.reduceAdd, Nat.reduceBEq, isLd, fa0_0, fa0_1, fa1_0, fa1_1]
  refine spec_AgreeTables_ok hs0 ks0 hs1 ks1 (by omega) (by omega) z0.sh z1.sh fun w hw => ?_
  simp (maxSteps := 300000) (disch := omega) only [gs, gs2, gs3, gs4, ↓reduceIte, Nat.reduceEqDiff, Int.reduceToNat, Nat.reduceMul, Nat.reduceAdd, Nat.reduceBEq, isLd, fa0_0, fa0_1, fa1_0, fa1_1]
  refine laws_toTable_ok' (N := x0) h0 k0 (by omega) z0 fun Ai0 Bi0 Hi0 G5 s5 hi0 ki0 => ?_
  have h0 := h0.sub s5
  have k0 := k0.sub s5
  have h1 := h1.sub s5
  have k1 := k1.sub s5
  have hs0 := hs0.sub s5
  have ks0 := ks0.sub s5
  have hs1 := hs1.sub s5
  have ks1 := ks1.sub s5
  have fa0_0 := rd_sub s5 fa0_0
  have fa0_1 := rd_sub s5 fa0_1
  have fa1_0 := rd_sub s5 fa1_0
  have fa1_1 := rd_sub s5 fa1_1
  simp (maxSteps := 300000) (disch := omega) only [gs, gs2, gs3, gs4, ↓reduceIte, Nat.reduceEqDiff, Int.reduceToNat, Nat.reduceMul, Nat.reduceAdd, Nat.reduceBEq, isLd, fa0_0, fa0_1, fa1_0, fa1_1]
  intro p2 hp2
  simp (maxSteps := 300000) (disch := omega) only [gs, gs2, gs3, gs4, ↓reduceIte, Nat.reduceEqDiff, Int.reduceToNat, Nat.reduceMul, Nat.reduceAdd, Nat.reduceBEq, isLd, fa0_0, fa0_1, fa1_0, fa1_1]
  refine st_fresh (vs := [.slice Ai0 x0.cols.length x0.cols.length, .slice Bi0 x0.rows.length x0.rows.length]) rfl rfl rfl (by intro v hv; simp only [List.mem_cons, List.not_mem_nil, or_false] at hv; rcases hv with rfl | rfl <;> rfl) ?_
  generalize hG6 : put G5 p2 ⟨[.slice Ai0 x0.cols.length x0.cols.length, .slice Bi0 x0.rows.length x0.rows.length], true⟩ = G6
  have s6 : Sub G5 G6 := hG6 ▸ Sub.put hp2 _
  have h0 := h0.sub s6
  have k0 := k0.sub s6
  have h1 := h1.sub s6
  have k1 := k1.sub s6
  have hs0 := hs0.sub s6
  have ks0 := ks0.sub s6
  have hs1 := hs1.sub s6
  have ks1 := ks1.sub s6
  have hi0 := hi0.sub s6
  have ki0 := ki0.sub s6
  have fa0_0 := rd_sub s6 fa0_0
  have fa0_1 := rd_sub s6 fa0_1
  have fa1_0 := rd_sub s6 fa1_0
  have fa1_1 := rd_sub s6 fa1_1
  have fi0_0 : rd G6 (some ⟨p2, 0, none⟩) = some (.slice Ai0 x0.cols.length x0.cols.length) := by rw [← hG6]; exact rd_box _ _ _ 0 _ rfl
  have fi0_1 : rd G6 (some ⟨p2, 1, none⟩) = some (.slice Bi0 x0.rows.length x0.rows.length) := by rw [← hG6]; exact rd_box _ _ _ 1 _ rfl
  simp (maxSteps := 300000) (disch := omega) only [gs, gs2, gs3, gs4, ↓reduceIte, Nat.reduceEqDiff, Int.reduceToNat, Nat.reduceMul, Nat.reduceAdd, Nat.reduceBEq, isLd, fa0_0, fa0_1, fa1_0, fa1_1, fi0_0, fi0_1]
  refine laws_toTable_ok' (N := x1) h1 k1 (by omega) z1 fun Ai1 Bi1 Hi1 G7 s7 hi1 ki1 => ?_
  have h0 := h0.sub s7
  have k0 := k0.sub s7
  have h1 := h1.sub s7
  have k1 := k1.sub s7
  have hs0 := hs0.sub s7
  have ks0 := ks0.sub s7
  have hs1 := hs1.sub s7
  have ks1 := ks1.sub s7
  have hi0 := hi0.sub s7
  have ki0 := ki0.sub s7
  have fa0_0 := rd_sub s7 fa0_0
  have fa0_1 := rd_sub s7 fa0_1
  have fa1_0 := rd_sub s7 fa1_0
  have fa1_1 := rd_sub s7 fa1_1
  have fi0_0 := rd_sub s7 fi0_0
  have fi0_1 := rd_sub s7 fi0_1
  simp (maxSteps := 300000) (disch := omega) only [gs, gs2, gs3, gs4, ↓reduceIte, Nat.reduceEqDiff, Int.reduceToNat, Nat.reduceMul, Nat.reduceAdd, Nat.reduceBEq, isLd, fa0_0, fa0_1, fa1_0, fa1_1, fi0_0, fi0_1]
  intro p3 hp3
  simp (maxSteps := 300000) (disch := omega) only [gs, gs2, gs3, gs4, ↓reduceIte, Nat.reduceEqDiff, Int.reduceToNat, Nat.reduceMul, Nat.reduceAdd, Nat.reduceBEq, isLd, fa0_0, fa0_1, fa1_0, fa1_1, fi0_0, fi0_1]
  refine st_fresh (vs := [.slice Ai1 x1.cols.length x1.cols.length, .slice Bi1 x1.rows.length x1.rows.length]) rfl rfl rfl (by intro v hv; simp only [List.mem_cons, List.not_mem_nil, or_false] at hv; rcases hv with rfl | rfl <;> rfl) ?_
  generalize hG8 : put G7 p3 ⟨[.slice Ai1 x1.cols.length x1.cols.length, .slice Bi1 x1.rows.length x1.rows.length], true⟩ = G8
  have s8 : Sub G7 G8 := hG8 ▸ Sub.put hp3 _
  have h0 := h0.sub s8
  have k0 := k0.sub s8
  have h1 := h1.sub s8
  have k1 := k1.sub s8
  have hs0 := hs0.sub s8
  have ks0 := ks0.sub s8
  have hs1 := hs1.sub s8
  have ks1 := ks1.sub s8
  have hi0 := hi0.sub s8
  have ki0 := ki0.sub s8
  have hi1 := hi1.sub s8
  have ki1 := ki1.sub s8
  have fa0_0 := rd_sub s8 fa0_0
  have fa0_1 := rd_sub s8 fa0_1
  have fa1_0 := rd_sub s8 fa1_0
  have fa1_1 := rd_sub s8 fa1_1
  have fi0_0 := rd_sub s8 fi0_0
  have fi0_1 := rd_sub s8 fi0_1
  have fi1_0 : rd G8 (some ⟨p3, 0, none⟩) = some (.slice Ai1 x1.cols.length x1.cols.length) := by rw [← hG8]; exact rd_box _ _ _ 0 _ rfl
  have fi1_1 : rd G8 (some ⟨p3, 1, none⟩) = some (.slice Bi1 x1.rows.length x1.rows.length) := by rw [← hG8]; exact rd_box _ _ _ 1 _ rfl
  simp (maxSteps := 300000) (disch := omega) only [gs, gs2, gs3, gs4, ↓reduceIte, Nat.reduceEqDiff, Int.reduceToNat, Nat.reduceMul, Nat.reduceAdd, Nat.reduceBEq, isLd, fa0_0, fa0_1, fa1_0, fa1_1, fi0_0, fi0_1, fi1_0, fi1_1]
  refine impl_AgreeTables_ok hi0 ki0 hi1 ki1 (by omega) (by omega) z0.sh z1.sh fun z hz => ?_
  obtain rfl : z = w := Bool.eq_iff_iff.2 (hz.trans hw.symm)
  simp (maxSteps := 300000) (disch := omega) only [gs, gs2, gs3, gs4, ↓reduceIte, Nat.reduceEqDiff, Int.reduceToNat, Nat.reduceMul, Nat.reduceAdd, Nat.reduceBEq, isLd, eq_self, fa0_0, fa0_1, fa1_0, fa1_1, fi0_0, fi0_1, fi1_0, fi1_1]
  refine laws_toTable_ok' (N := x0) h0 k0 (by omega) z0 fun Ae0 Be0 He0 G9 s9 he0 ke0 => ?_
  have h0 := h0.sub s9
  have k0 := k0.sub s9
  have h1 := h1.sub s9
  have k1 := k1.sub s9
  have hs0 := hs0.sub s9
  have ks0 := ks0.sub s9
  have hs1 := hs1.sub s9
  have ks1 := ks1.sub s9
  have hi0 := hi0.sub s9
  have ki0 := ki0.sub s9
  have hi1 := hi1.sub s9
  have ki1 := ki1.sub s9
  have fa0_0 := rd_sub s9 fa0_0
  have fa0_1 := rd_sub s9 fa0_1
  have fa1_0 := rd_sub s9 fa1_0
  have fa1_1 := rd_sub s9 fa1_1
  have fi0_0 := rd_sub s9 fi0_0
  have fi0_1 := rd_sub s9 fi0_1
  have fi1_0 := rd_sub s9 fi1_0
  have fi1_1 := rd_sub s9 fi1_1
  simp (maxSteps := 300000) (disch := omega) only [gs, gs2, gs3, gs4, ↓reduceIte, Nat.reduceEqDiff, Int.reduceToNat, Nat.reduceMul, Nat.reduceAdd, Nat.reduceBEq, isLd, fa0_0, fa0_1, fa1_0, fa1_1, fi0_0, fi0_1, fi1_0, fi1_1]
  refine laws_eqTable_ok (N := x0) (M := x0) hi0 ki0 he0 ke0 (by omega) z0.sh.1 z0.sh.2 fun b hb => ?_
  obtain rfl : b = true := hb.2 rfl
  simp (maxSteps := 300000) (disch := omega) only [gs, gs2, gs3, gs4, ↓reduceIte, Nat.reduceEqDiff, Int.reduceToNat, Nat.reduceMul, Nat.reduceAdd, Nat.reduceBEq, isLd, fa0_0, fa0_1, fa1_0, fa1_1, fi0_0, fi0_1, fi1_0, fi1_1]
  refine laws_toTable_ok' (N := x1) h1 k1 (by omega) z1 fun Ae1 Be1 He1 G10 s10 he1 ke1 => ?_
  have h0 := h0.sub s10
  have k0 := k0.sub s10
  have h1 := h1.sub s10
  have k1 := k1.sub s10
  have hs0 := hs0.sub s10
  have ks0 := ks0.sub s10
  have hs1 := hs1.sub s10
  have ks1 := ks1.sub s10
  have hi0 := hi0.sub s10
  have ki0 := ki0.sub s10
  have hi1 := hi1.sub s10
  have ki1 := ki1.sub s10
  have he0 := he0.sub s10
  have ke0 := ke0.sub s10
  have fa0_0 := rd_sub s10 fa0_0
  have fa0_1 := rd_sub s10 fa0_1
  have fa1_0 := rd_sub s10 fa1_0
  have fa1_1 := rd_sub s10 fa1_1
  have fi0_0 := rd_sub s10 fi0_0
  have fi0_1 := rd_sub s10 fi0_1
  have fi1_0 := rd_sub s10 fi1_0
  have fi1_1 := rd_sub s10 fi1_1
  simp (maxSteps := 300000) (disch := omega) only [gs, gs2, gs3, gs4, ↓reduceIte, Nat.reduceEqDiff, Int.reduceToNat, Nat.reduceMul, Nat.reduceAdd, Nat.reduceBEq, isLd, fa0_0, fa0_1, fa1_0, fa1_1, fi0_0, fi0_1, fi1_0, fi1_1]
  refine laws_eqTable_ok (N := x1) (M := x1) hi1 ki1 he1 ke1 (by omega) z1.sh.1 z1.sh.2 fun b hb => ?_
  obtain rfl : b = true := hb.2 rfl
  simp (maxSteps := 300000) (disch := omega) only [gs, gs2, gs3, gs4, ↓reduceIte, Nat.reduceEqDiff, Int.reduceToNat, Nat.reduceMul, Nat.reduceAdd, Nat.reduceBEq, isLd, fa0_0, fa0_1, fa1_0, fa1_1, fi0_0, fi0_1, fi1_0, fi1_1]

end Go.Proofs.Ytanpmilodaejpaa.Gh
