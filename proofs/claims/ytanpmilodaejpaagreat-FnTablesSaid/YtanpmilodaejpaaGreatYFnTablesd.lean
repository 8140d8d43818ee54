/- What the functions that the law FnTables reaches return, and the law; it stands under no condition. -/
import Derived.Test.YtanpmilodaejpaaGreatYFnTablesc
import Derived.Shelf.SlSortCmp.NoneTotal
import Derived.Lib.QuietBelow
import Derived.Shelf.SortG.Plain
import Derived.Shelf.SortG.SortNone
namespace Go.Proofs.YtanpmilodaejpaaGreat.Gh
open Go Go.RowKit Go.Proofs
set_option linter.unusedVariables false
set_option linter.unusedSimpArgs false
set_option maxHeartbeats 4000000

theorem spec_l20DrawOk_ok {G : GH} {b : Nat} {A : Option Addr} {L c p : Nat} (h : Src (del G b) G b A L c p) (hp : p < 2 ^ 30) {K : Value → GH → Prop}
    (hk : ∀ G' N X x Y y hs, DrT G G' b A L c (p + 1000) N X x Y y hs → N.cols.length ≤ 10 → N.rows.length ≤ 10 → (∀ r ∈ N.rows, r.length = N.cols.length) → K (tabV N X x Y y) G') : GC Tryz.prog 102 [.pointer (some ⟨b, 0, none⟩)] G K := by
  refine c_spec_l20DrawOk_i (by simp) ?_
  have kb := h.kb
  have hw := @dok_rows
  unfold c_spec_l20DrawOk
  generalize c_spec_l20DrawOk_10 = R10 at hw ⊢
  simp (maxSteps := 300000) (disch := omega) only [gs, gs2, gs3, gs4, ↓reduceIte, Nat.reduceEqDiff, Int.reduceToNat, Nat.reduceMul, Nat.reduceAdd, Nat.reduceBEq, isLd]
  intro b2 hb2
  simp (maxSteps := 300000) (disch := omega) only [gs, gs2, gs3, gs4, ↓reduceIte, Nat.reduceEqDiff, Int.reduceToNat, Nat.reduceMul, Nat.reduceAdd, Nat.reduceBEq, isLd, gBs]
  refine ⟨fun v hv => (by cases hv), fun bc hbc => ⟨fun v hv => (by cases hv), fun br hbr => ?_⟩⟩
  have hbl : bldV [Value.slice none 0 0, Value.slice none 0 0] [(0, 1, Value.slice (some ⟨bc, 0, none⟩) 0 0), (1, 1, Value.slice (some ⟨br, 0, none⟩) 0 0)] = some [Value.slice (some ⟨bc, 0, none⟩) 0 0, Value.slice (some ⟨br, 0, none⟩) 0 0] := rfl
  simp (maxSteps := 300000) (disch := omega) only [gs, gs2, gs3, gs4, ↓reduceIte, Nat.reduceEqDiff, Int.reduceToNat, Nat.reduceMul, Nat.reduceAdd, Nat.reduceBEq, isLd, hbl]
  intro b3 hb3
  simp (maxSteps := 300000) (disch := omega) only [gs, gs2, gs3, gs4, ↓reduceIte, Nat.reduceEqDiff, Int.reduceToNat, Nat.reduceMul, Nat.reduceAdd, Nat.reduceBEq, isLd]
  refine st_fresh (vs := [.slice (some ⟨bc, 0, none⟩) 0 0, .slice (some ⟨br, 0, none⟩) 0 0]) rfl rfl rfl (by intro v hv; simp at hv; rcases hv with rfl | rfl <;> rfl) ?_
  have sG := (((Sub.put hb2 ⟨zT, true⟩).trans (Sub.put hbc ⟨[], true⟩)).trans (Sub.put hbr ⟨[], true⟩)).trans (Sub.put hb3 ⟨tabC ⟨[], []⟩ (some ⟨bc, 0, none⟩) 0 (some ⟨br, 0, none⟩) 0, true⟩)
  have hD : DrN G (put (put (put (put G b2 ⟨zT, true⟩) bc ⟨[], true⟩) br ⟨[], true⟩) b3 ⟨tabC ⟨[], []⟩ (some ⟨bc, 0, none⟩) 0 (some ⟨br, 0, none⟩) 0, true⟩) b b2 b3 A L c p ⟨[], []⟩ (some ⟨bc, 0, none⟩) 0 (some ⟨br, 0, none⟩) 0 (fun _ => (none, 0)) := by
    have hb3' : put (put (put G b2 ⟨zT, true⟩) bc ⟨[], true⟩) br ⟨[], true⟩ b3 = none := hb3
    have hbr' : put (put G b2 ⟨zT, true⟩) bc ⟨[], true⟩ br = none := hbr
    have hbc' : put G b2 ⟨zT, true⟩ bc = none := hbc
    simp only [put_none] at hb3' hbr' hbc'
    obtain ⟨n3r, n3c, n32, g3⟩ := hb3'
    obtain ⟨nrc, nr2, gr⟩ := hbr'
    obtain ⟨nc2, gc⟩ := hbc'
    refine ⟨h.upS sG, by rw [put_ne _ _ n32.symm, put_ne _ _ nr2.symm, put_ne _ _ nc2.symm]; exact put_same _ _ _, put_same _ _ _, ⟨Own.blk (by rw [put_ne _ _ n3c.symm, put_ne _ _ nrc.symm]; exact put_same _ _ _) rfl, ⟨Own.blk (by rw [put_ne _ _ n3r.symm]; exact put_same _ _ _) rfl, fun i hi => by simp at hi, fun i hi => by simp at hi, fun i j hi => by simp at hi⟩, fun a b ha hb => by cases ha; cases hb; exact nrc.symm, fun i hi => by simp at hi⟩, ?_, hb2, g3, n32.symm, kb⟩
    rintro q (⟨a, ha, rfl⟩ | ⟨a, ha, rfl⟩ | ⟨i, hi, _⟩)
    · cases ha; exact ⟨gc, nc2, n3c.symm⟩
    · cases ha; exact ⟨gr, nr2, n3r.symm⟩
    · simp at hi
  have e0 : (put (put (put (put G b2 ⟨[.slice none 0 0, .slice none 0 0], true⟩) bc ⟨List.flatMap (fun v : Value => v.cells.toList) [], true⟩) br ⟨List.flatMap (fun v : Value => v.cells.toList) [], true⟩) b3 ⟨[.slice (some ⟨bc, 0, none⟩) 0 0, .slice (some ⟨br, 0, none⟩) 0 0], true⟩) = put (put (put (put G b2 ⟨zT, true⟩) bc ⟨[], true⟩) br ⟨[], true⟩) b3 ⟨tabC ⟨[], []⟩ (some ⟨bc, 0, none⟩) 0 (some ⟨br, 0, none⟩) 0, true⟩ := rfl
  rw [e0]
  clear sG e0
  revert hD
  generalize put (put (put (put G b2 ⟨zT, true⟩) bc ⟨[], true⟩) br ⟨[], true⟩) b3 ⟨tabC ⟨[], []⟩ (some ⟨bc, 0, none⟩) 0 (some ⟨br, 0, none⟩) 0, true⟩ = G1
  intro hD
  clear hbl hb2 hbc hbr hb3
  simp (maxSteps := 300000) (disch := omega) only [gs, gs2, gs3, gs4, ↓reduceIte, Nat.reduceEqDiff, Int.reduceToNat, Nat.reduceMul, Nat.reduceAdd, Nat.reduceBEq, isLd]
  -- the columns
  refine gLoop_intro (fun m T G' => ∃ (k : Nat) (cs : List Int) (X : Option Addr) (x : Nat), T 0 = .pointer (some ⟨b, 0, none⟩) ∧ T 2 = .pointer (some ⟨b2, 0, none⟩) ∧ T 3 = .pointer (some ⟨b3, 0, none⟩) ∧ T 4 = .int .i64 k ∧ m + k = 4 ∧ cs.length ≤ k ∧ DrN G G' b b2 b3 A L c (p + 2 * k) ⟨cs, []⟩ X x (some ⟨br, 0, none⟩) 0 (fun _ => (none, 0))) 4
    ⟨0, [], _, 0, by simp (maxSteps := 300000) (disch := omega) only [gs, gs2, gs3, gs4, ↓reduceIte, Nat.reduceEqDiff, Int.reduceToNat, Nat.reduceMul, Nat.reduceAdd, Nat.reduceBEq, isLd], by simp (maxSteps := 300000) (disch := omega) only [gs, gs2, gs3, gs4, ↓reduceIte, Nat.reduceEqDiff, Int.reduceToNat, Nat.reduceMul, Nat.reduceAdd, Nat.reduceBEq, isLd], by simp (maxSteps := 300000) (disch := omega) only [gs, gs2, gs3, gs4, ↓reduceIte, Nat.reduceEqDiff, Int.reduceToNat, Nat.reduceMul, Nat.reduceAdd, Nat.reduceBEq, isLd], by simp (maxSteps := 300000) (disch := omega) only [gs, gs2, gs3, gs4, ↓reduceIte, Nat.reduceEqDiff, Int.reduceToNat, Nat.reduceMul, Nat.reduceAdd, Nat.reduceBEq, isLd] <;> rfl, by omega, by simp, hD⟩ ?_
  clear hD
  rintro m T G2 ⟨k, cs, X, x, t0, t2, t3, t4, hm, hcl, hD⟩
  simp (maxSteps := 300000) (disch := omega) only [gs, gs2, gs3, gs4, ↓reduceIte, Nat.reduceEqDiff, Int.reduceToNat, Nat.reduceMul, Nat.reduceAdd, Nat.reduceBEq, isLd, t0, t2, t3, t4]
  by_cases hk4 : (k : Int) < 4
  · simp (maxSteps := 300000) (disch := omega) only [gs, gs2, gs3, gs4, ↓reduceIte, Nat.reduceEqDiff, Int.reduceToNat, Nat.reduceMul, Nat.reduceAdd, Nat.reduceBEq, isLd, t0, t2, t3, t4, hk4]
    refine spec_one_ok hD.src.all (by omega) (by omega) fun v G3 s3 => ?_
    have hD := hD.step s3
    cases v
    · simp (maxSteps := 300000) (disch := omega) only [gs, gs2, gs3, gs4, ↓reduceIte, Nat.reduceEqDiff, Int.reduceToNat, Nat.reduceMul, Nat.reduceAdd, Nat.reduceBEq, isLd, t0, t2, t3, t4]
      exact ⟨m - 1, by omega, G3, Sub.refl _, k + 1, cs, X, x, rfl, by omega, by omega, hD.le (by omega)⟩
    · have f := hD.rd
      simp (maxSteps := 300000) (disch := omega) only [gs, gs2, gs3, gs4, ↓reduceIte, Nat.reduceEqDiff, Int.reduceToNat, Nat.reduceMul, Nat.reduceAdd, Nat.reduceBEq, isLd, t0, t2, t3, t4, f.1, f.2, gBs]
      refine ⟨fun v hv => (by simp at hv; subst hv; rfl), fun bs hbs => ?_⟩
      refine (hD.up (Sub.put hbs _)).addcol (v := (k : Int)) (put_same _ _ _) (by show cs.length < _; omega) fun G4 X' x' hst => ?_
      simp (maxSteps := 300000) (disch := omega) only [gs, gs2, gs3, gs4, ↓reduceIte, Nat.reduceEqDiff, Int.reduceToNat, Nat.reduceMul, Nat.reduceAdd, Nat.reduceBEq, isLd, t0, t2, t3, t4]
      refine hst _ fun G5 hD5 => ?_
      simp (maxSteps := 300000) (disch := omega) only [gs, gs2, gs3, gs4, ↓reduceIte, Nat.reduceEqDiff, Int.reduceToNat, Nat.reduceMul, Nat.reduceAdd, Nat.reduceBEq, isLd, t0, t2, t3, t4]
      exact ⟨m - 1, by omega, G5, Sub.refl _, k + 1, cs ++ [(k : Int)], X', x', rfl, by omega, by simp; omega, hD5.le (by omega)⟩
  · obtain rfl : k = 4 := by omega
    simp (maxSteps := 300000) (disch := omega) only [gs, gs2, gs3, gs4, ↓reduceIte, Nat.reduceEqDiff, Int.reduceToNat, Nat.reduceMul, Nat.reduceAdd, Nat.reduceBEq, isLd, t0, t2, t3, t4, hk4]
    refine spec_one_ok hD.src.all (by omega) (by omega) fun v G3 s3 => ?_
    have hD := hD.step s3
    cases v
    · simp (maxSteps := 300000) (disch := omega) only [gs, gs2, gs3, gs4, ↓reduceIte, Nat.reduceEqDiff, Int.reduceToNat, Nat.reduceMul, Nat.reduceAdd, Nat.reduceBEq, isLd, t0, t2, t3]
      exact hw (by simp (maxSteps := 300000) (disch := omega) only [gs, gs2, gs3, gs4, ↓reduceIte, Nat.reduceEqDiff, Int.reduceToNat, Nat.reduceMul, Nat.reduceAdd, Nat.reduceBEq, isLd, t0]) (by simp (maxSteps := 300000) (disch := omega) only [gs, gs2, gs3, gs4, ↓reduceIte, Nat.reduceEqDiff, Int.reduceToNat, Nat.reduceMul, Nat.reduceAdd, Nat.reduceBEq, isLd, t2]) (by simp (maxSteps := 300000) (disch := omega) only [gs, gs2, gs3, gs4, ↓reduceIte, Nat.reduceEqDiff, Int.reduceToNat, Nat.reduceMul, Nat.reduceAdd, Nat.reduceBEq, isLd, t3]) (by omega) (hD.le (by omega)) hp hk
    · have f := hD.rd
      simp (maxSteps := 300000) (disch := omega) only [gs, gs2, gs3, gs4, ↓reduceIte, Nat.reduceEqDiff, Int.reduceToNat, Nat.reduceMul, Nat.reduceAdd, Nat.reduceBEq, isLd, t0, t2, t3, t4, f.1, f.2, gBs]
      refine ⟨fun v hv => (by simp at hv; subst hv; rfl), fun bs hbs => ?_⟩
      refine (hD.up (Sub.put hbs _)).addcol (v := 7) (put_same _ _ _) (by show cs.length < _; omega) fun G4 X' x' hst => ?_
      simp (maxSteps := 300000) (disch := omega) only [gs, gs2, gs3, gs4, ↓reduceIte, Nat.reduceEqDiff, Int.reduceToNat, Nat.reduceMul, Nat.reduceAdd, Nat.reduceBEq, isLd, t0, t2, t3, t4]
      refine hst _ fun G5 hD5 => ?_
      simp (maxSteps := 300000) (disch := omega) only [gs, gs2, gs3, gs4, ↓reduceIte, Nat.reduceEqDiff, Int.reduceToNat, Nat.reduceMul, Nat.reduceAdd, Nat.reduceBEq, isLd, t0, t2, t3, t4]
      exact hw (by simp (maxSteps := 300000) (disch := omega) only [gs, gs2, gs3, gs4, ↓reduceIte, Nat.reduceEqDiff, Int.reduceToNat, Nat.reduceMul, Nat.reduceAdd, Nat.reduceBEq, isLd, t0]) (by simp (maxSteps := 300000) (disch := omega) only [gs, gs2, gs3, gs4, ↓reduceIte, Nat.reduceEqDiff, Int.reduceToNat, Nat.reduceMul, Nat.reduceAdd, Nat.reduceBEq, isLd, t2]) (by simp (maxSteps := 300000) (disch := omega) only [gs, gs2, gs3, gs4, ↓reduceIte, Nat.reduceEqDiff, Int.reduceToNat, Nat.reduceMul, Nat.reduceAdd, Nat.reduceBEq, isLd, t3]) (by simp; omega) (hD5.le (by omega)) hp hk
theorem rows_set {xss : List (List Int)} {i j : Nat} {r : List Int} (hi : i < xss.length) : (xss.set i r).getD j [] = if j = i then r else xss.getD j [] := by
  by_cases h : j = i
  · subst h; simp [List.getD, hi]
  · rw [if_neg h]; simp [List.getD, List.getElem?_set, Ne.symm h]
/-- a cell of the first row is written. -/
theorem DrN.cell {G0 G : GH} {b b2 b3 : Nat} {A : Option Addr} {L c p : Nat} {N : Tab} {X : Option Addr} {x : Nat} {Y : Option Addr} {y : Nat} {hs : Nat → Option Addr × Nat} (h : DrN G0 G b b2 b3 A L c p N X x Y y hs) (h0 : 0 < N.rows.length) (h1 : 0 < (N.rows.getD 0 []).length) (v : Int) {K : Value → GH → Prop}
    (hK : ∀ G5, DrN G0 G5 b b2 b3 A L c p ⟨N.cols, N.rows.set 0 ((N.rows.getD 0 []).set 0 v)⟩ X x Y y hs → K undef G5) : gSt 1 (.pointer (hs 0).1) (.int .i64 v) G K := by
  have hr := h.own.rows.row 0 h0
  have hof := fun a (ha : (hs 0).1 = some a) => h.off a.block (.inr (.inr ⟨0, h0, a, ha, rfl⟩))
  have hY := h.own.rows.ne 0 h0
  have hX := h.own.nR 0 h0
  have hu := fun (G' : GH) (u : Upd G G' (hs 0).1) => OwnR.set (yss := N.rows.set 0 ((N.rows.getD 0 []).set 0 v)) h.own.rows h0 u
  generalize hs 0 = hz at hr hof hY hX hu ⊢
  obtain ⟨Z, z⟩ := hz
  rcases hr with ⟨_, _, hz, _⟩ | ⟨q, r, rfl, hq, hlen, hc, hnc⟩
  · omega
  dsimp only at hof hY hX hu ⊢
  have hb := hof _ rfl
  refine st_one hq (by rw [List.length_append, List.length_map]; omega) rfl (hK _ ?_)
  have hcell : ((N.rows.getD 0 []).map I64 ++ r).set 0 (.int .i64 v) = ((N.rows.getD 0 []).set 0 v).map I64 ++ r := by
    rw [List.set_append_left _ _ (by rw [List.length_map]; exact h1), List.map_set]; rfl
  rw [hcell]
  have u : Upd G (Gh.put G q ⟨((N.rows.getD 0 []).set 0 v).map I64 ++ r, true⟩) (some ⟨q, 0, none⟩) := .inr ⟨q, _, rfl, by rw [hq]; simp, rfl⟩
  have hlr : ((N.rows.set 0 ((N.rows.getD 0 []).set 0 v)).getD 0 []) = (N.rows.getD 0 []).set 0 v := by rw [rows_set h0, if_pos rfl]
  have hR := hu _ u (by rw [List.length_set]) (by rw [hlr, List.length_set]) (fun j hj hj0 => by rw [rows_set h0, if_neg hj0]) (by
    rw [hlr]
    exact .inr ⟨q, r, rfl, put_same _ _ _, by simp, by simpa using hc, by simpa using hnc⟩)
  have nb := kb_ne h.kb hb.1
  obtain ⟨qq, st, e1, e2⟩ := h.src.ex
  refine ⟨⟨h.src.sub.skip (del_of hb.1), h.src.nb, h.src.byt, qq, st, e1, by rw [put_ne _ _ (Ne.symm nb)]; exact e2⟩, by rw [put_ne _ _ (Ne.symm hb.2.1)]; exact h.r2, by rw [put_ne _ _ (Ne.symm hb.2.2), h.r3]; unfold tabC; rw [List.length_set], ⟨h.own.cols.oth (Oth.put _ _ _) fun a ha e => hX a _ ha rfl e, hR, h.own.nB, fun i hi => h.own.nR i (by rw [List.length_set] at hi; exact hi)⟩, fun z hz => ?_, h.n2, h.n3, h.n23, h.kb⟩
  rw [List.length_set] at hz
  exact h.off z hz
theorem bend_fin {G0 G : GH} {b b3 b4 : Nat} {A : Option Addr} {L c p p' : Nat} {N : Tab} {X : Option Addr} {x : Nat} {Y : Option Addr} {y : Nat} {hs : Nat → Option Addr × Nat} {T : Nat → Value} {K : Value → GH → Prop} (t3 : T 3 = .pointer (some ⟨b3, 0, none⟩)) (t4 : T 4 = .pointer (some ⟨b4, 0, none⟩)) (h : DrN G0 G b b4 b3 A L c p N X x Y y hs) (sm : DSm N) (hp : p ≤ p')
    (hk : ∀ G' N X x Y y hs, DrT G0 G' b A L c p' N X x Y y hs → DSm N → K (tabV N X x Y y) G') : gW Tryz.prog (.seq (.reg c_spec_l20Bend_18) (.ret)) (RetK [RV.cn 4 2] K) T G := by
  have f := h.rd
  simp (maxSteps := 300000) (disch := omega) only [gs, gs2, gs3, gs4, ↓reduceIte, Nat.reduceEqDiff, Int.reduceToNat, Nat.reduceMul, Nat.reduceAdd, Nat.reduceBEq, isLd, t3, t4, f.1, f.2]
  refine st_many (vs := [.slice X N.cols.length x, .slice Y N.rows.length y]) rfl h.r2 rfl (by simp [zT]) (by intro v hv; simp at hv; rcases hv with rfl | rfl <;> rfl) ?_
  unfold zT
  simp only [over, List.set_cons_zero, List.set_cons_succ]
  have k0 : rd (put G b4 ⟨[.slice X N.cols.length x, .slice Y N.rows.length y], true⟩) (some ⟨b4, 0, none⟩) = some (.slice X N.cols.length x) := rd_box _ _ _ 0 _ rfl
  have k1 : rd (put G b4 ⟨[.slice X N.cols.length x, .slice Y N.rows.length y], true⟩) (some ⟨b4, 1, none⟩) = some (.slice Y N.rows.length y) := rd_box _ _ _ 1 _ rfl
  simp (maxSteps := 300000) (disch := omega) only [gs, gs2, gs3, gs4, ↓reduceIte, Nat.reduceEqDiff, Int.reduceToNat, Nat.reduceMul, Nat.reduceAdd, Nat.reduceBEq, isLd, t4, k0, k1]
  exact hk _ N X x Y y hs ((h.fin _).le hp) sm
theorem spec_l20Bend_ok {G0 G : GH} {b : Nat} {A : Option Addr} {L c p : Nat} {N : Tab} {X : Option Addr} {x : Nat} {Y : Option Addr} {y : Nat} {hs : Nat → Option Addr × Nat} (h : DrT G0 G b A L c p N X x Y y hs) (hc : N.cols.length ≤ 10) (hr : N.rows.length ≤ 10) (hl : ∀ r ∈ N.rows, r.length = N.cols.length) (hp : p < 2 ^ 31) {K : Value → GH → Prop}
    (hk : ∀ G' N X x Y y hs, DrT G0 G' b A L c (p + 100) N X x Y y hs → DSm N → K (tabV N X x Y y) G') : GC Tryz.prog 101 [.pointer (some ⟨b, 0, none⟩), tabV N X x Y y] G K := by
  refine c_spec_l20Bend_i (by simp) ?_
  have hw := @bend_fin
  unfold c_spec_l20Bend
  generalize c_spec_l20Bend_18 = R18 at hw ⊢
  have gl : ∀ {i}, i < N.rows.length → (N.rows.getD i []).length = N.cols.length := fun {i} hi => hl _ (by simp [List.getD, hi])
  have sm : DSm N := ⟨by omega, by omega, fun r hr' => by have := hl r hr'; omega⟩
  unfold tabV tabC
  simp (maxSteps := 300000) (disch := omega) only [gs, gs2, gs3, gs4, ↓reduceIte, Nat.reduceEqDiff, Int.reduceToNat, Nat.reduceMul, Nat.reduceAdd, Nat.reduceBEq, isLd]
  intro b3 hb3
  simp (maxSteps := 300000) (disch := omega) only [gs, gs2, gs3, gs4, ↓reduceIte, Nat.reduceEqDiff, Int.reduceToNat, Nat.reduceMul, Nat.reduceAdd, Nat.reduceBEq, isLd]
  intro b4 hb4
  have hD : DrN G0 (put (put G b3 ⟨tabC N X x Y y, true⟩) b4 ⟨zT, true⟩) b b4 b3 A L c p N X x Y y hs := by
    have n43 : b4 ≠ b3 := (put_none.1 hb4).1
    have g4 : G b4 = none := (put_none.1 hb4).2
    have s := (Sub.put hb3 ⟨tabC N X x Y y, true⟩).trans (Sub.put (show put G b3 ⟨tabC N X x Y y, true⟩ b4 = none from hb4) ⟨zT, true⟩)
    exact ⟨h.src.upS s, put_same _ _ _, by rw [put_ne _ _ (Ne.symm n43)]; exact put_same _ _ _, h.own.sub s, fun q hq => ⟨h.off q hq, fun e => h.own.on q hq (by rw [e]; exact g4), fun e => h.own.on q hq (by rw [e]; exact hb3)⟩, src_none h.src g4, src_none h.src hb3, n43, h.kb⟩
  have e0 : put (put G b3 ⟨[.slice X N.cols.length x, .slice Y N.rows.length y], true⟩) b4 ⟨[.slice none 0 0, .slice none 0 0], true⟩ = put (put G b3 ⟨tabC N X x Y y, true⟩) b4 ⟨zT, true⟩ := rfl
  rw [e0]
  revert hD
  generalize put (put G b3 ⟨tabC N X x Y y, true⟩) b4 ⟨zT, true⟩ = G1
  intro hD
  clear e0 hb3 hb4
  simp (maxSteps := 300000) (disch := omega) only [gs, gs2, gs3, gs4, ↓reduceIte, Nat.reduceEqDiff, Int.reduceToNat, Nat.reduceMul, Nat.reduceAdd, Nat.reduceBEq, isLd]
  refine spec_pick_ok hD.src.all (by omega) (by omega) fun v G2 v0 v1 _ s2 => ?_
  have hD := hD.step s2
  have f := hD.rd
  have nbl : ∀ {G : GH} {bl : Nat}, G b ≠ none → G bl = none → bl ≠ b := fun h1 h2 e => h1 (by rw [← e]; exact h2)
  by_cases c0 : v = 0
  · subst c0
    simp (maxSteps := 300000) (disch := omega) only [gs, gs2, gs3, gs4, ↓reduceIte, Nat.reduceEqDiff, Int.reduceToNat, Nat.reduceMul, Nat.reduceAdd, Nat.reduceBEq, isLd, eq_true (show (0 : Int) = 0 from rfl), f.1, f.2, gBs]
    refine ⟨fun v hv => (by simp at hv; rcases hv with rfl | rfl | rfl <;> rfl), fun bl hbl => ?_⟩
    have sl := Sub.put hbl ⟨([0, 8, -1] : List Int).map I64, true⟩
    have hDl := hD.up sl
    have hil := lit_del (G := G2) [0, 8, -1] (nbl hD.src.kb hbl)
    have e0 : put G2 bl ⟨List.flatMap (fun v : Value => v.cells.toList) [Value.int .i64 0, Value.int .i64 8, Value.int .i64 (-1)], true⟩ = put G2 bl ⟨([0, 8, -1] : List Int).map I64, true⟩ := rfl
    try rw [e0]
    revert hDl hil
    generalize put G2 bl ⟨([0, 8, -1] : List Int).map I64, true⟩ = G3
    intro hDl hil
    refine ⟨hDl.rd.1, ?_⟩
    refine spec_among_ok (xs := [0, 8, -1]) hDl.src.all (by omega) hil (by decide) (by decide) fun w G4 hw' s4 => ?_
    have hD4 := hDl.step s4
    simp (maxSteps := 300000) (disch := omega) only [gs, gs2, gs3, gs4, ↓reduceIte, Nat.reduceEqDiff, Int.reduceToNat, Nat.reduceMul, Nat.reduceAdd, Nat.reduceBEq, isLd, hD4.rd.1, gBs]
    refine ⟨fun v hv => (by simp at hv; subst hv; rfl), fun bs hbs => ?_⟩
    have hD5 := hD4.up (Sub.put hbs ⟨[I64 w], true⟩)
    refine ⟨hD5.rd.1, ?_⟩
    refine hD5.addcol (v := w) (put_same _ _ _) (by omega) fun G6 X' x' hst => ?_
    simp (maxSteps := 300000) (disch := omega) only [gs, gs2, gs3, gs4, ↓reduceIte, Nat.reduceEqDiff, Int.reduceToNat, Nat.reduceMul, Nat.reduceAdd, Nat.reduceBEq, isLd]
    refine hst _ fun G7 hD7 => ?_
    simp (maxSteps := 300000) (disch := omega) only [gs, gs2, gs3, gs4, ↓reduceIte, Nat.reduceEqDiff, Int.reduceToNat, Nat.reduceMul, Nat.reduceAdd, Nat.reduceBEq, isLd]
    exact hw (by simp (maxSteps := 300000) (disch := omega) only [gs, gs2, gs3, gs4, ↓reduceIte, Nat.reduceEqDiff, Int.reduceToNat, Nat.reduceMul, Nat.reduceAdd, Nat.reduceBEq, isLd]) (by simp (maxSteps := 300000) (disch := omega) only [gs, gs2, gs3, gs4, ↓reduceIte, Nat.reduceEqDiff, Int.reduceToNat, Nat.reduceMul, Nat.reduceAdd, Nat.reduceBEq, isLd]) hD7 ⟨by simp; omega, by show N.rows.length ≤ _; omega, sm.l⟩ (by omega) hk
  have e0' : (v = 0) = False := eq_false c0
  by_cases c1 : v = 1
  · subst c1
    simp (maxSteps := 300000) (disch := omega) only [gs, gs2, gs3, gs4, ↓reduceIte, Nat.reduceEqDiff, Int.reduceToNat, Nat.reduceMul, Nat.reduceAdd, Nat.reduceBEq, isLd, eq_false (show ¬ (1 : Int) = 0 by decide), eq_true (show (1 : Int) = 1 from rfl), f.1, f.2]
    by_cases h0 : (0 : Int) < N.rows.length
    · have hrs := hD.own.rows.rows
      have r0 := hrs.r 0 (by omega)
      have r0' : rd G2 Y = some (.slice (hs 0).1 (N.rows.getD 0 []).length (hs 0).2) := by rw [pa_zero] at r0; exact r0
      have hsY := hrs.sn (by omega)
      have hg := gl (i := 0) (by omega)
      simp (maxSteps := 300000) (disch := omega) only [gs, gs2, gs3, gs4, ↓reduceIte, Nat.reduceEqDiff, Int.reduceToNat, Nat.reduceMul, Nat.reduceAdd, Nat.reduceBEq, isLd, h0, f.1, f.2, r0, r0', pa_zero]
      refine spec_l00Own_ok (hrs.row 0 (by omega)) (by omega) fun G3 D e hN => ?_
      have q := rd_sub hN.sub f.2
      simp (maxSteps := 300000) (disch := omega) only [gs, gs2, gs3, gs4, ↓reduceIte, Nat.reduceEqDiff, Int.reduceToNat, Nat.reduceMul, Nat.reduceAdd, Nat.reduceBEq, isLd, q, rd_sub hN.sub r0', pa_zero, gBs]
      refine ⟨fun v hv => (by simp at hv; subst hv; rfl), fun bs hbs => ?_⟩
      have sb := Sub.put hbs ⟨[.slice D (N.rows.getD 0 []).length e], true⟩
      have s3 := hN.sub.trans sb
      refine ⟨⟨rd_sub s3 r0', rd_sub s3 f.2, rd_sub s3 f.2⟩, ?_⟩
      refine hD.addrow (r := N.rows.getD 0 []) s3 (hN.fresh.sub sb) hN.off (put_same _ _ _) (by omega) fun G4 Y' y' g3 gr hst => ?_
      have k3 : rd G4 (some ⟨b3, 1, none⟩) = some (.slice Y N.rows.length y) := by simp only [rd, g3]; rfl
      have k4 : rd G4 Y = some (.slice (hs 0).1 (N.rows.getD 0 []).length (hs 0).2) := by have := gr 0 (by omega); rw [pa_zero] at this; exact this
      simp (maxSteps := 300000) (disch := omega) only [gs, gs2, gs3, gs4, ↓reduceIte, Nat.reduceEqDiff, Int.reduceToNat, Nat.reduceMul, Nat.reduceAdd, Nat.reduceBEq, isLd, k3, k4, pa_zero]
      refine hst _ fun G5 hs5 hD5 => ?_
      simp (maxSteps := 300000) (disch := omega) only [gs, gs2, gs3, gs4, ↓reduceIte, Nat.reduceEqDiff, Int.reduceToNat, Nat.reduceMul, Nat.reduceAdd, Nat.reduceBEq, isLd]
      exact hw (by simp (maxSteps := 300000) (disch := omega) only [gs, gs2, gs3, gs4, ↓reduceIte, Nat.reduceEqDiff, Int.reduceToNat, Nat.reduceMul, Nat.reduceAdd, Nat.reduceBEq, isLd]) (by simp (maxSteps := 300000) (disch := omega) only [gs, gs2, gs3, gs4, ↓reduceIte, Nat.reduceEqDiff, Int.reduceToNat, Nat.reduceMul, Nat.reduceAdd, Nat.reduceBEq, isLd]) hD5 ⟨by show N.cols.length ≤ _; omega, by simp; omega, fun r hr' => by
        rcases List.mem_append.1 hr' with hr' | hr'
        · exact sm.l r hr'
        · simp only [List.mem_singleton] at hr'; subst hr'; omega⟩ (by omega) hk
    · simp (maxSteps := 300000) (disch := omega) only [gs, gs2, gs3, gs4, ↓reduceIte, Nat.reduceEqDiff, Int.reduceToNat, Nat.reduceMul, Nat.reduceAdd, Nat.reduceBEq, isLd, h0]
      exact hw (by simp (maxSteps := 300000) (disch := omega) only [gs, gs2, gs3, gs4, ↓reduceIte, Nat.reduceEqDiff, Int.reduceToNat, Nat.reduceMul, Nat.reduceAdd, Nat.reduceBEq, isLd]) (by simp (maxSteps := 300000) (disch := omega) only [gs, gs2, gs3, gs4, ↓reduceIte, Nat.reduceEqDiff, Int.reduceToNat, Nat.reduceMul, Nat.reduceAdd, Nat.reduceBEq, isLd]) hD sm (by omega) hk
  have e1' : (v = 1) = False := eq_false c1
  by_cases c2 : v = 2
  · subst c2
    simp (maxSteps := 300000) (disch := omega) only [gs, gs2, gs3, gs4, ↓reduceIte, Nat.reduceEqDiff, Int.reduceToNat, Nat.reduceMul, Nat.reduceAdd, Nat.reduceBEq, isLd, eq_false (show ¬ (2 : Int) = 0 by decide), eq_false (show ¬ (2 : Int) = 1 by decide), eq_true (show (2 : Int) = 2 from rfl), f.1, f.2]
    by_cases h0 : (0 : Int) < N.rows.length
    · have hrs := hD.own.rows.rows
      have r0 := hrs.r 0 (by omega)
      have r0' : rd G2 Y = some (.slice (hs 0).1 (N.rows.getD 0 []).length (hs 0).2) := by rw [pa_zero] at r0; exact r0
      have hsY := hrs.sn (by omega)
      have hg := gl (i := 0) (by omega)
      by_cases h1 : (0 : Int) < N.cols.length
      · have hlr : (0 : Int) < (N.rows.getD 0 []).length := by omega
        have hsr := (hrs.row 0 (by omega)).sn (by omega)
        simp (maxSteps := 300000) (disch := omega) only [gs, gs2, gs3, gs4, ↓reduceIte, Nat.reduceEqDiff, Int.reduceToNat, Nat.reduceMul, Nat.reduceAdd, Nat.reduceBEq, isLd, h0, h1, f.1, f.2, r0, r0', pa_zero, gBs]
        refine ⟨fun v hv => (by simp at hv; rcases hv with rfl | rfl | rfl <;> rfl), fun bl hbl => ?_⟩
        have sl := Sub.put hbl ⟨([-1, 3, 4] : List Int).map I64, true⟩
        have hDl := hD.up sl
        have hil := lit_del (G := G2) [-1, 3, 4] (nbl hD.src.kb hbl)
        have q2 := rd_sub sl f.2
        have q3 := rd_sub sl r0'
        have e0 : put G2 bl ⟨List.flatMap (fun v : Value => v.cells.toList) [Value.int .i64 (-1), Value.int .i64 3, Value.int .i64 4], true⟩ = put G2 bl ⟨([-1, 3, 4] : List Int).map I64, true⟩ := rfl
        try rw [e0]
        revert hDl hil q2 q3
        generalize put G2 bl ⟨([-1, 3, 4] : List Int).map I64, true⟩ = G3
        intro hDl hil q2 q3
        refine ⟨⟨q3, q2⟩, ?_⟩
        refine spec_among_ok (xs := [-1, 3, 4]) hDl.src.all (by omega) hil (by decide) (by decide) fun w G4 hw' s4 => ?_
        have hD4 := hDl.step s4
        have r4 := hD4.own.rows.rows.r 0 (by omega)
        rw [pa_zero] at r4
        simp (maxSteps := 300000) (disch := omega) only [gs, gs2, gs3, gs4, ↓reduceIte, Nat.reduceEqDiff, Int.reduceToNat, Nat.reduceMul, Nat.reduceAdd, Nat.reduceBEq, isLd, hD4.rd.2, r4, pa_zero, hlr]
        refine hD4.cell (by omega) (by omega) w fun G5 hD5 => ?_
        simp (maxSteps := 300000) (disch := omega) only [gs, gs2, gs3, gs4, ↓reduceIte, Nat.reduceEqDiff, Int.reduceToNat, Nat.reduceMul, Nat.reduceAdd, Nat.reduceBEq, isLd]
        exact hw (by simp (maxSteps := 300000) (disch := omega) only [gs, gs2, gs3, gs4, ↓reduceIte, Nat.reduceEqDiff, Int.reduceToNat, Nat.reduceMul, Nat.reduceAdd, Nat.reduceBEq, isLd]) (by simp (maxSteps := 300000) (disch := omega) only [gs, gs2, gs3, gs4, ↓reduceIte, Nat.reduceEqDiff, Int.reduceToNat, Nat.reduceMul, Nat.reduceAdd, Nat.reduceBEq, isLd]) hD5 ⟨by show N.cols.length ≤ _; omega, by rw [List.length_set]; omega, fun r hr' => by
          rcases List.mem_or_eq_of_mem_set hr' with hr' | rfl
          · exact sm.l r hr'
          · rw [List.length_set]; omega⟩ (by omega) hk
      · simp (maxSteps := 300000) (disch := omega) only [gs, gs2, gs3, gs4, ↓reduceIte, Nat.reduceEqDiff, Int.reduceToNat, Nat.reduceMul, Nat.reduceAdd, Nat.reduceBEq, isLd, h0, h1, f.1, f.2]
        exact hw (by simp (maxSteps := 300000) (disch := omega) only [gs, gs2, gs3, gs4, ↓reduceIte, Nat.reduceEqDiff, Int.reduceToNat, Nat.reduceMul, Nat.reduceAdd, Nat.reduceBEq, isLd]) (by simp (maxSteps := 300000) (disch := omega) only [gs, gs2, gs3, gs4, ↓reduceIte, Nat.reduceEqDiff, Int.reduceToNat, Nat.reduceMul, Nat.reduceAdd, Nat.reduceBEq, isLd]) hD sm (by omega) hk
    · simp (maxSteps := 300000) (disch := omega) only [gs, gs2, gs3, gs4, ↓reduceIte, Nat.reduceEqDiff, Int.reduceToNat, Nat.reduceMul, Nat.reduceAdd, Nat.reduceBEq, isLd, h0]
      exact hw (by simp (maxSteps := 300000) (disch := omega) only [gs, gs2, gs3, gs4, ↓reduceIte, Nat.reduceEqDiff, Int.reduceToNat, Nat.reduceMul, Nat.reduceAdd, Nat.reduceBEq, isLd]) (by simp (maxSteps := 300000) (disch := omega) only [gs, gs2, gs3, gs4, ↓reduceIte, Nat.reduceEqDiff, Int.reduceToNat, Nat.reduceMul, Nat.reduceAdd, Nat.reduceBEq, isLd]) hD sm (by omega) hk
  have e2' : (v = 2) = False := eq_false c2
  by_cases c3 : v = 3
  · subst c3
    simp (maxSteps := 300000) (disch := omega) only [gs, gs2, gs3, gs4, ↓reduceIte, Nat.reduceEqDiff, Int.reduceToNat, Nat.reduceMul, Nat.reduceAdd, Nat.reduceBEq, isLd, eq_false (show ¬ (3 : Int) = 0 by decide), eq_false (show ¬ (3 : Int) = 1 by decide), eq_false (show ¬ (3 : Int) = 2 by decide), eq_true (show (3 : Int) = 3 from rfl), f.1, f.2, gBs]
    refine ⟨fun v hv => (by simp at hv; rcases hv with rfl | rfl <;> rfl), fun bl hbl => ?_⟩
    have sl := Sub.put hbl ⟨([24, 25] : List Int).map I64, true⟩
    have hDl := hD.up sl
    have hil := lit_del (G := G2) [24, 25] (nbl hD.src.kb hbl)
    have e0 : put G2 bl ⟨List.flatMap (fun v : Value => v.cells.toList) [Value.int .i64 24, Value.int .i64 25], true⟩ = put G2 bl ⟨([24, 25] : List Int).map I64, true⟩ := rfl
    try rw [e0]
    revert hDl hil
    generalize put G2 bl ⟨([24, 25] : List Int).map I64, true⟩ = G3
    intro hDl hil
    refine spec_among_ok (xs := [24, 25]) hDl.src.all (by omega) hil (by decide) (by decide) fun w G4 hw' s4 => ?_
    have hwb : 0 ≤ w ∧ w ≤ 25 := by simp at hw'; omega
    have hD4 := hDl.step s4
    simp (maxSteps := 300000) (disch := omega) only [gs, gs2, gs3, gs4, ↓reduceIte, Nat.reduceEqDiff, Int.reduceToNat, Nat.reduceMul, Nat.reduceAdd, Nat.reduceBEq, isLd, gBs]
    refine ⟨fun v hv => (by simp at hv; rcases hv with rfl | rfl | rfl <;> rfl), fun bc hbc => ⟨fun v hv => (by cases hv), fun br hbr => ?_⟩⟩
    have hbl2 : bldV [Value.slice none 0 0, Value.slice none 0 0] [(0, 1, Value.slice (some ⟨bc, 0, none⟩) 3 3), (1, 1, Value.slice (some ⟨br, 0, none⟩) 0 0)] = some [Value.slice (some ⟨bc, 0, none⟩) 3 3, Value.slice (some ⟨br, 0, none⟩) 0 0] := rfl
    simp (maxSteps := 300000) (disch := omega) only [gs, gs2, gs3, gs4, ↓reduceIte, Nat.reduceEqDiff, Int.reduceToNat, Nat.reduceMul, Nat.reduceAdd, Nat.reduceBEq, isLd, hbl2]
    have sc := Sub.put hbc ⟨([0, 1, 2] : List Int).map I64, true⟩
    have e1 : put G4 bc ⟨List.flatMap (fun v : Value => v.cells.toList) [Value.int .i64 0, Value.int .i64 1, Value.int .i64 2], true⟩ = put G4 bc ⟨([0, 1, 2] : List Int).map I64, true⟩ := rfl
    try rw [e1] at hbr ⊢
    have sr := Sub.put hbr ⟨[], true⟩
    have hD6 := hD4.up (sc.trans sr)
    have nrc : br ≠ bc := (put_none.1 hbr).1
    refine st_many (vs := [.slice (some ⟨bc, 0, none⟩) 3 3, .slice (some ⟨br, 0, none⟩) 0 0]) rfl hD6.r3 rfl (by simp [tabC]) (by intro v hv; simp at hv; rcases hv with rfl | rfl <;> rfl) ?_
    unfold tabC
    simp only [over, List.set_cons_zero, List.set_cons_succ]
    have hD7 := hD6.box (N' := ⟨[0, 1, 2], []⟩) (X' := some ⟨bc, 0, none⟩) (x' := 3) (Y' := some ⟨br, 0, none⟩) (y' := 0) (hs' := fun _ => (none, 0)) hD6.src.sub rfl rfl ⟨Own.blk (by rw [put_ne _ _ (Ne.symm nrc)]; exact put_same _ _ _) rfl, ⟨Own.blk (put_same _ _ _) rfl, fun i hi => by simp at hi, fun i hi => by simp at hi, fun i j hi => by simp at hi⟩, fun a b ha hb => by cases ha; cases hb; exact Ne.symm nrc, fun i hi => by simp at hi⟩ (fun q hq => by
      rcases hq with ⟨a, ha, rfl⟩ | ⟨a, ha, rfl⟩ | ⟨i, hi, _⟩
      · cases ha; exact hD4.off' hbc
      · cases ha; exact (hD4.up sc).off' hbr
      · simp at hi)
    unfold tabC at hD7
    revert hD7
    generalize hG7 : put (put (put G4 bc ⟨([0, 1, 2] : List Int).map I64, true⟩) br ⟨[], true⟩) b3 ⟨[.slice (some ⟨bc, 0, none⟩) (⟨[0, 1, 2], []⟩ : Tab).cols.length 3, .slice (some ⟨br, 0, none⟩) (⟨[0, 1, 2], []⟩ : Tab).rows.length 0], true⟩ = G7
    intro hD7
    have hG7' : put (put (put G4 bc ⟨([0, 1, 2] : List Int).map I64, true⟩) br ⟨List.flatMap (fun v : Value => v.cells.toList) [], true⟩) b3 ⟨[.slice (some ⟨bc, 0, none⟩) 3 3, .slice (some ⟨br, 0, none⟩) 0 0], true⟩ = G7 := hG7
    rw [hG7']
    clear hG7 hG7' hD6 sc sr e1 hbc hbr nrc hbl2 hD4 e0 hil hDl sl hbl f hD
    obtain ⟨wn, rfl⟩ : ∃ wn : Nat, w = wn := ⟨w.toNat, by omega⟩
    simp (maxSteps := 300000) (disch := omega) only [gs, gs2, gs3, gs4, ↓reduceIte, Nat.reduceEqDiff, Int.reduceToNat, Nat.reduceMul, Nat.reduceAdd, Nat.reduceBEq, isLd]
    refine gLoop_intro (fun m T G' => ∃ (rs : List (List Int)) (Y : Option Addr) (y : Nat) (hs : Nat → Option Addr × Nat), T 3 = .pointer (some ⟨b3, 0, none⟩) ∧ T 4 = .pointer (some ⟨b4, 0, none⟩) ∧ T 5 = .int .i64 wn ∧ T 6 = .int .i64 rs.length ∧ m + rs.length = wn ∧ (∀ r ∈ rs, r.length = 3) ∧ DrN G0 G' b b4 b3 A L c (p + 2 + 2) ⟨[0, 1, 2], rs⟩ (some ⟨bc, 0, none⟩) 3 Y y hs) wn
      ⟨[], _, 0, _, by simp (maxSteps := 300000) (disch := omega) only [gs, gs2, gs3, gs4, ↓reduceIte, Nat.reduceEqDiff, Int.reduceToNat, Nat.reduceMul, Nat.reduceAdd, Nat.reduceBEq, isLd], by simp (maxSteps := 300000) (disch := omega) only [gs, gs2, gs3, gs4, ↓reduceIte, Nat.reduceEqDiff, Int.reduceToNat, Nat.reduceMul, Nat.reduceAdd, Nat.reduceBEq, isLd], by simp (maxSteps := 300000) (disch := omega) only [gs, gs2, gs3, gs4, ↓reduceIte, Nat.reduceEqDiff, Int.reduceToNat, Nat.reduceMul, Nat.reduceAdd, Nat.reduceBEq, isLd], by simp (maxSteps := 300000) (disch := omega) only [gs, gs2, gs3, gs4, ↓reduceIte, Nat.reduceEqDiff, Int.reduceToNat, Nat.reduceMul, Nat.reduceAdd, Nat.reduceBEq, isLd] <;> rfl, by simp, fun r hr => (by cases hr), hD7⟩ ?_
    clear hD7
    rintro m T G8 ⟨rs, Y, y, hs, t3, t4, t5, t6, hm, hlen, hD⟩
    have f := hD.rd
    have q1 := fun z : Int => bin_quo .i64 z 16 (by decide)
    have q2 := fun z : Int => bin_quo .i64 z 4 (by decide)
    have q3 := fun z : Int => bin_rem .i64 z 4 (by decide)
    simp (maxSteps := 300000) (disch := omega) only [gs, gs2, gs3, gs4, ↓reduceIte, Nat.reduceEqDiff, Int.reduceToNat, Nat.reduceMul, Nat.reduceAdd, Nat.reduceBEq, isLd, t3, t4, t5, t6]
    by_cases hj : (rs.length : Int) < wn
    · simp (maxSteps := 300000) (disch := omega) only [gs, gs2, gs3, gs4, ↓reduceIte, Nat.reduceEqDiff, Int.reduceToNat, Nat.reduceMul, Nat.reduceAdd, Nat.reduceBEq, isLd, t3, t4, t5, t6, hj, f.2, q1, q2, q3, gBs]
      generalize IntKind.i64.wrap ((rs.length : Int).tdiv 16) = z1
      generalize (IntKind.i64.wrap ((rs.length : Int).tdiv 4)).tmod 4 = z2
      generalize (rs.length : Int).tmod 4 = z3
      refine ⟨fun v hv => (by simp at hv; rcases hv with rfl | rfl | rfl <;> rfl), fun bd hbd => ⟨fun v hv => (by simp at hv; subst hv; rfl), fun be hbe => ?_⟩⟩
      have sd := Sub.put hbd ⟨([z1, z2, z3] : List Int).map I64, true⟩
      have se := Sub.put (show put G8 bd ⟨([z1, z2, z3] : List Int).map I64, true⟩ be = none from hbe) ⟨[.slice (some ⟨bd, 0, none⟩) 3 3], true⟩
      refine hD.addrow (D := some ⟨bd, 0, none⟩) (e := 3) (r := [z1, z2, z3]) (sd.trans se) (Own.blk (se _ _ (put_same _ _ _)) rfl) (fun a ha => by cases ha; exact hbd) (put_same _ _ _) (by show rs.length < _; omega) fun G4 Y' y' g3 gr hst => ?_
      simp (maxSteps := 300000) (disch := omega) only [gs, gs2, gs3, gs4, ↓reduceIte, Nat.reduceEqDiff, Int.reduceToNat, Nat.reduceMul, Nat.reduceAdd, Nat.reduceBEq, isLd, t3, t4, t5, t6]
      refine hst _ fun G5 hs5 hD5 => ?_
      simp (maxSteps := 300000) (disch := omega) only [gs, gs2, gs3, gs4, ↓reduceIte, Nat.reduceEqDiff, Int.reduceToNat, Nat.reduceMul, Nat.reduceAdd, Nat.reduceBEq, isLd, t3, t4, t5, t6]
      exact ⟨m - 1, by omega, G5, Sub.refl _, rs ++ [[z1, z2, z3]], Y', y', hs5, by simp, by simp; omega, fun r hr' => by
        rcases List.mem_append.1 hr' with hr' | hr'
        · exact hlen r hr'
        · simp only [List.mem_singleton] at hr'; subst hr'; rfl, hD5⟩
    · simp (maxSteps := 300000) (disch := omega) only [gs, gs2, gs3, gs4, ↓reduceIte, Nat.reduceEqDiff, Int.reduceToNat, Nat.reduceMul, Nat.reduceAdd, Nat.reduceBEq, isLd, t3, t4, t5, t6, hj]
      exact hw (by simp (maxSteps := 300000) (disch := omega) only [gs, gs2, gs3, gs4, ↓reduceIte, Nat.reduceEqDiff, Int.reduceToNat, Nat.reduceMul, Nat.reduceAdd, Nat.reduceBEq, isLd, t3]) (by simp (maxSteps := 300000) (disch := omega) only [gs, gs2, gs3, gs4, ↓reduceIte, Nat.reduceEqDiff, Int.reduceToNat, Nat.reduceMul, Nat.reduceAdd, Nat.reduceBEq, isLd, t4]) hD ⟨by show 3 ≤ 100; omega, by show rs.length ≤ _; omega, fun r hr' => by have := hlen r hr'; omega⟩ (by omega) hk
  · simp (maxSteps := 300000) (disch := omega) only [gs, gs2, gs3, gs4, ↓reduceIte, Nat.reduceEqDiff, Int.reduceToNat, Nat.reduceMul, Nat.reduceAdd, Nat.reduceBEq, isLd, e0', e1', e2', eq_false c3]
    exact hw (by simp (maxSteps := 300000) (disch := omega) only [gs, gs2, gs3, gs4, ↓reduceIte, Nat.reduceEqDiff, Int.reduceToNat, Nat.reduceMul, Nat.reduceAdd, Nat.reduceBEq, isLd]) (by simp (maxSteps := 300000) (disch := omega) only [gs, gs2, gs3, gs4, ↓reduceIte, Nat.reduceEqDiff, Int.reduceToNat, Nat.reduceMul, Nat.reduceAdd, Nat.reduceBEq, isLd]) hD sm (by omega) hk
theorem DrT.wr {G0 G : GH} {b q : Nat} {A : Option Addr} {L c p : Nat} {N : Tab} {X : Option Addr} {x : Nat} {Y : Option Addr} {y : Nat} {hs : Nat → Option Addr × Nat} (h : DrT G0 G b A L c p N X x Y y hs) (hq : G0 q ≠ none) (e : Ent) : OwnT (put G q e) N X x Y y hs :=
  h.own.oth (Oth.put _ _ _) fun z hz e' => hq (by rw [← e']; exact h.off z hz)
theorem DrT.wr2 {G0 G : GH} {b q q' : Nat} {A : Option Addr} {L c p : Nat} {N : Tab} {X : Option Addr} {x : Nat} {Y : Option Addr} {y : Nat} {hs : Nat → Option Addr × Nat} (h : DrT G0 G b A L c p N X x Y y hs) (hq : G0 q ≠ none) (hq' : G0 q' ≠ none) (e e' : Ent) : OwnT (put (put G q e) q' e') N X x Y y hs :=
  (h.wr hq e).oth (Oth.put _ _ _) fun z hz e1 => hq' (by rw [← e1]; exact h.off z hz)
theorem Sub.delm {G G' : GH} (s : Sub G G') (b : Nat) : Sub (Gh.del G b) (Gh.del G' b) := fun x e h => by
  unfold Gh.del at h ⊢
  split at h
  · cases h
  · rename_i c; rw [if_neg c]; exact s x e h
/-- a list of tables that is being drawn. -/
structure DL (G0 G : GH) (b : Nat) (A : Option Addr) (L c p : Nat) (Z : Option Addr) (z : Nat) (H : Nat → TH) (ts : List Tab) : Prop where
  src : Src (del G0 b) G b A L c p
  out : Own G Z z (cellsT H ts) 2 ts.length
  cols : ∀ i, i < ts.length → IntS (wz (del G b) Z) (H i).A (H i).c (ts.getD i t0).cols
  rows : ∀ i, i < ts.length → RowS (wz (del G b) Z) (H i).B (H i).d (H i).hs (ts.getD i t0).rows
  off : Off G0 Z
  kb : G0 b ≠ none
theorem DL.step {G0 G G' : GH} {b : Nat} {A : Option Addr} {L c p p' : Nat} {Z : Option Addr} {z : Nat} {H : Nat → TH} {ts : List Tab} (h : DL G0 G b A L c p Z z H ts) (s : Src (del G b) G' b A L c p') : DL G0 G' b A L c p' Z z H ts := by
  have w : Sub (wz (del G b) Z) (wz (del G' b) Z) := Sub.wz_mono (s.sub.in_del s.nb)
  exact ⟨h.src.then s, (h.out.del fun a ha => kb_ne h.kb (h.off a ha)).sub s.sub, fun i hi => (h.cols i hi).sub w, fun i hi => (h.rows i hi).sub w, h.off, h.kb⟩
theorem DL.up {G0 G G' : GH} {b : Nat} {A : Option Addr} {L c p : Nat} {Z : Option Addr} {z : Nat} {H : Nat → TH} {ts : List Tab} (h : DL G0 G b A L c p Z z H ts) (s : Sub G G') : DL G0 G' b A L c p Z z H ts := by
  have w : Sub (wz (del G b) Z) (wz (del G' b) Z) := Sub.wz_mono (Sub.delm s b)
  exact ⟨h.src.upS s, h.out.sub s, fun i hi => (h.cols i hi).sub w, fun i hi => (h.rows i hi).sub w, h.off, h.kb⟩
theorem DL.le {G0 G : GH} {b : Nat} {A : Option Addr} {L c p p' : Nat} {Z : Option Addr} {z : Nat} {H : Nat → TH} {ts : List Tab} (h : DL G0 G b A L c p Z z H ts) (hp : p ≤ p') : DL G0 G b A L c p' Z z H ts := ⟨h.src.le hp, h.out, h.cols, h.rows, h.off, h.kb⟩
theorem DL.tabs {G0 G : GH} {b : Nat} {A : Option Addr} {L c p : Nat} {Z : Option Addr} {z : Nat} {H : Nat → TH} {ts : List Tab} (h : DL G0 G b A L c p Z z H ts) : TabsS G Z z H ts := by
  have w : Sub (wz (del G b) Z) G := (Sub.wz _ _).trans (Sub.del _ _)
  exact ⟨h.out.cap, fun i hi => h.out.cells _ _ (cellsT_get hi).1, fun i hi => h.out.cells _ _ (cellsT_get hi).2, fun i hi => (h.cols i hi).sub w, fun i hi => (h.rows i hi).sub w⟩
theorem TabsS.take {G : GH} {Z : Option Addr} {z n : Nat} {H : Nat → TH} {ts : List Tab} (h : TabsS G Z z H ts) (hn : n ≤ ts.length) : TabsS G Z z H (ts.take n) := by
  have hl : (ts.take n).length = n := by simp; omega
  have hg : ∀ {i}, i < n → (ts.take n).getD i t0 = ts.getD i t0 := fun hi => by simp [List.getD, List.getElem?_take, hi]
  have hc := h.cap
  refine ⟨by rw [hl]; omega, fun i hi => ?_, fun i hi => ?_, fun i hi => ?_, fun i hi => ?_⟩ <;> rw [hl] at hi <;> rw [hg hi]
  · exact h.r0 i (by omega)
  · exact h.r1 i (by omega)
  · exact h.cols i (by omega)
  · exact h.rows i (by omega)
/-- a table that stands beside a list. -/
theorem DL.add {G0 G : GH} {b bs : Nat} {A : Option Addr} {L c p : Nat} {Z : Option Addr} {z : Nat} {H : Nat → TH} {ts : List Tab} {t : Tab} {hh : TH} (h : DL G0 G b A L c p Z z H ts) (hc : IntS (wz (del G b) Z) hh.A hh.c t.cols) (hr : RowS (wz (del G b) Z) hh.B hh.d hh.hs t.rows)
    (hb : G bs = some ⟨tabC t hh.A hh.c hh.B hh.d, true⟩) (hl : ts.length < 2 ^ 20) {K : Value → GH → Prop} (hK : ∀ G4 Z' z' H', DL G0 G4 b A L c p Z' z' H' (ts ++ [t]) → Sub (wz (del G b) Z) (wz (del G4 b) Z') → K (.slice Z' (ts.length + 1) z') G4) :
    gAp 2 48 [.slice none 0 0, .slice none 0 0] (.slice Z ts.length z) (.slice (some ⟨bs, 0, none⟩) 1 1) G K := by
  refine ap_own h.out (news := tabC t hh.A hh.c hh.B hh.d) (m := 1) (Own.blk (n := 1) (sz := 2) hb rfl).cells (by rfl) (tabC_one _ _ _ _ _) rfl (by omega) (by omega) (by omega) fun G4 Z' z' hO keep => ?_
  obtain ⟨s4, o4⟩ := keep _ (Sub.wz G Z) (Off.wz G Z)
  have nZ : ∀ a, Z = some a → a.block ≠ b := fun a ha => kb_ne h.kb (h.off a ha)
  obtain ⟨q, st, e1, e2⟩ := h.src.ex
  have gb := wz_get s4 (q := b) (by rw [e2]; simp) nZ
  have h0 : Sub (del G0 b) G4 := fun q f hq => by
    refine s4 _ _ ?_
    rw [wz_ne fun a ha e => ?_]
    · exact h.src.sub _ _ hq
    · have := h.off a ha
      unfold del at hq
      split at hq
      · cases hq
      · rw [← e, this] at hq; cases hq
  have w : Sub (wz (del G b) Z) (wz (del G4 b) Z') := fun q f hq => by
    have hq1 : q ≠ b := fun e => by
      unfold wz at hq
      split at hq
      · cases hq
      · rw [e, del_none] at hq; cases hq
    have hq2 : wz G Z q = some f := by
      unfold wz at hq ⊢
      split at hq
      · cases hq
      · rename_i c; rw [if_neg c]; rwa [del_ne _ hq1] at hq
    rw [wz_ne fun a ha e => ?_, del_ne _ hq1]
    · exact s4 _ _ hq2
    · have := o4 a ha
      rw [e, hq2] at this; cases this
  have hl' : (ts ++ [t]).length = ts.length + 1 := by simp
  have hg : ∀ i, i < ts.length → (ts ++ [t]).getD i t0 = ts.getD i t0 := fun i hi => by simp [List.getD, List.getElem?_append_left hi]
  have hgl : (ts ++ [t]).getD ts.length t0 = t := by simp [List.getD]
  refine hK G4 Z' z' (fun i => if i = ts.length then hh else H i) ⟨⟨h0, h.src.nb, h.src.byt, q, st, e1, by rw [gb]; exact e2⟩, by rw [cellsT_snoc, hl']; exact hO, fun i hi => ?_, fun i hi => ?_, fun a ha => ?_, h.kb⟩ w
  · rw [hl'] at hi
    by_cases c : i = ts.length
    · subst c; simp only [if_true]; rw [hgl]; exact hc.sub w
    · simp only [if_neg c]; rw [hg i (by omega)]; exact (h.cols i (by omega)).sub w
  · rw [hl'] at hi
    by_cases c : i = ts.length
    · subst c; simp only [if_true]; rw [hgl]; exact hr.sub w
    · simp only [if_neg c]; rw [hg i (by omega)]; exact (h.rows i (by omega)).sub w
  · have h2 := o4 a ha
    by_cases c : G a.block = none
    · exact src_none h.src c
    · have : ∃ y, Z = some y ∧ y.block = a.block := by
        apply Classical.byContradiction; intro hn
        rw [wz_ne fun y hy e => hn ⟨y, hy, e⟩] at h2
        exact c h2
      obtain ⟨y, hy, e⟩ := this
      have := h.off y hy
      rwa [e] at this
theorem rest_wz {G G' : GH} {b : Nat} {Z : Option Addr} (kb : G b ≠ none) (kz : ∀ a, Z = some a → G a.block ≠ none) : Sub (rest G G') (wz (del G' b) Z) := fun q f hq => by
  obtain ⟨h1, h2⟩ := rest_some.1 hq
  rw [wz_ne fun a ha e => kz a ha (by rw [e]; exact h1), del_ne _ fun e => kb (by rw [← e]; exact h1)]
  exact h2
theorem DrT.beside {G0 Gd G : GH} {b : Nat} {A A' : Option Addr} {L L' c c' p p' : Nat} {N : Tab} {X : Option Addr} {x : Nat} {Y : Option Addr} {y : Nat} {hs : Nat → Option Addr × Nat} {Z : Option Addr} {z : Nat} {H : Nat → TH} {ts : List Tab} (h : DrT Gd G b A L c p N X x Y y hs) (k : DL G0 Gd b A' L' c' p' Z z H ts) : OwnT (wz (del G b) Z) N X x Y y hs :=
  (h.own.oth (del_oth G b) fun q hq => kb_ne h.kb (h.off q hq)).wz fun q hq a ha e => own_ne k.out a ha (by rw [← e]; exact h.off q hq)
theorem NewT.beside {G0 Gd G : GH} {b : Nat} {A : Option Addr} {L c p : Nat} {N : Tab} {X : Option Addr} {x : Nat} {Y : Option Addr} {y : Nat} {hs : Nat → Option Addr × Nat} {Z : Option Addr} {z : Nat} {H : Nat → TH} {ts : List Tab} (h : NewT Gd G N X x Y y hs) (k : DL G0 Gd b A L c p Z z H ts) : OwnT (wz (del G b) Z) N X x Y y hs :=
  ((h.own.sub (Sub.rest _ _)).oth (del_oth G b) fun q hq e => k.src.kb (by rw [← e]; exact h.off q hq)).wz fun q hq a ha e => own_ne k.out a ha (by rw [← e]; exact h.off q hq)
theorem dsm_tabs {ts : List Tab} (hn : ts.length ≤ 100) (h : ∀ t ∈ ts, DSm t) : TabsSm ts := ⟨by omega, fun i hi => by
  have hm : ts.getD i t0 ∈ ts := by simp [List.getD, hi]
  have := h _ hm
  exact ⟨by have := this.c; omega, by have := this.r; omega, fun j hj => by
    have hj' : (ts.getD i t0).rows.getD j [] ∈ (ts.getD i t0).rows := by
      generalize (ts.getD i t0).rows = R at hj
      simp [List.getD, hj]
    have := this.l _ hj'; omega⟩⟩
theorem spec_DrawJoinTables_ok {G : GH} {A : Option Addr} {L c : Nat} (h : BytS G A L c) {K : Value → GH → Prop}
    (hk : ∀ G' N X x Y y hs M X' x' Y' y' hs', DSm N → DSm M → Sub G G' → IntS G' X x N.cols → RowS G' Y y hs N.rows → IntS G' X' x' M.cols → RowS G' Y' y' hs' M.rows → K (.tuple [tabV N X x Y y, tabV M X' x' Y' y'].toArray) G') : GC Tryz.prog 44 [.slice A L c] G K := by
  refine GC_drop (c_spec_DrawJoinTables_i (by simp) ?_)
  simp (maxSteps := 300000) (disch := omega) only [gs, gs2, gs3, gs4, ↓reduceIte, Nat.reduceEqDiff, Int.reduceToNat, Nat.reduceMul, Nat.reduceAdd, Nat.reduceBEq, isLd]
  intro b2 hb2
  simp (maxSteps := 300000) (disch := omega) only [gs, gs2, gs3, gs4, ↓reduceIte, Nat.reduceEqDiff, Int.reduceToNat, Nat.reduceMul, Nat.reduceAdd, Nat.reduceBEq, isLd]
  intro b3 hb3
  simp (maxSteps := 300000) (disch := omega) only [gs, gs2, gs3, gs4, ↓reduceIte, Nat.reduceEqDiff, Int.reduceToNat, Nat.reduceMul, Nat.reduceAdd, Nat.reduceBEq, isLd]
  refine c_spec_l00From_i (by simp) ?_
  have hbl : bldV [.slice none 0 0, .int .i64 0, .int .u64 0] [(0, 1, .slice A L c)] = some [.slice A L c, .int .i64 0, .int .u64 0] := rfl
  simp (maxSteps := 300000) (disch := omega) only [gs, gs2, gs3, gs4, ↓reduceIte, Nat.reduceEqDiff, Int.reduceToNat, Nat.reduceMul, Nat.reduceAdd, Nat.reduceBEq, isLd, hbl]
  intro b5 hb5
  simp (maxSteps := 300000) (disch := omega) only [gs, gs2, gs3, gs4, ↓reduceIte, Nat.reduceEqDiff, Int.reduceToNat, Nat.reduceMul, Nat.reduceAdd, Nat.reduceBEq, isLd]
  have s2 := (Sub.put hb2 ⟨zT, true⟩).trans (Sub.put (show put G b2 ⟨zT, true⟩ b3 = none from hb3) ⟨zT, true⟩)
  have n32 : b3 ≠ b2 := (put_none.1 hb3).1
  have g3 : G b3 = none := (put_none.1 hb3).2
  have e2 : put (put G b2 ⟨zT, true⟩) b3 ⟨zT, true⟩ b2 = some ⟨zT, true⟩ := by rw [put_ne _ _ (Ne.symm n32)]; exact put_same _ _ _
  have e3 := put_same (put G b2 ⟨zT, true⟩) b3 ⟨zT, true⟩
  have ez : (put (put G b2 ⟨[.slice none 0 0, .slice none 0 0], true⟩) b3 ⟨[.slice none 0 0, .slice none 0 0], true⟩) = put (put G b2 ⟨zT, true⟩) b3 ⟨zT, true⟩ := rfl
  rw [ez] at hb5 ⊢
  have k5 : ∀ {q : Nat} {e : Ent}, put (put G b2 ⟨zT, true⟩) b3 ⟨zT, true⟩ q = some e → q ≠ b5 := fun hq e' => by rw [e', hb5] at hq; cases hq
  revert s2 e2 e3
  generalize put (put G b2 ⟨zT, true⟩) b3 ⟨zT, true⟩ = G1 at hb5 k5 ⊢
  intro s2 e2 e3
  have hS : Src G1 (put G1 b5 ⟨[.slice A L c, .int .i64 0, .int .u64 0], true⟩) b5 A L c 0 := ⟨Sub.put hb5 _, hb5, h.sub s2, 0, 0, Nat.le_refl _, put_same _ _ _⟩
  refine spec_l20DrawOk_ok hS.all (by omega) fun G2 N X x Y y hs hD h1 h2 h3 => ?_
  simp (maxSteps := 300000) (disch := omega) only [gs, gs2, gs3, gs4, ↓reduceIte, Nat.reduceEqDiff, Int.reduceToNat, Nat.reduceMul, Nat.reduceAdd, Nat.reduceBEq, isLd]
  refine spec_l20Bend_ok hD h1 h2 h3 (by omega) fun G3 N X x Y y hs hD hN => ?_
  clear h1 h2 h3
  have s3 : Sub G1 (del G3 b5) := (hS.sub.in_del hb5).trans (hD.src.sub.in_del hD.src.nb)
  have q2 := (put_ne G1 ⟨[.slice A L c, .int .i64 0, .int .u64 0], true⟩ (k5 e2)).trans e2
  have q3 := (put_ne G1 ⟨[.slice A L c, .int .i64 0, .int .u64 0], true⟩ (k5 e3)).trans e3
  unfold tabV tabC
  simp (maxSteps := 300000) (disch := omega) only [gs, gs2, gs3, gs4, ↓reduceIte, Nat.reduceEqDiff, Int.reduceToNat, Nat.reduceMul, Nat.reduceAdd, Nat.reduceBEq, isLd]
  intro b6 hb6
  simp (maxSteps := 300000) (disch := omega) only [gs, gs2, gs3, gs4, ↓reduceIte, Nat.reduceEqDiff, Int.reduceToNat, Nat.reduceMul, Nat.reduceAdd, Nat.reduceBEq, isLd]
  refine st_fresh (vs := [.slice X N.cols.length x, .slice Y N.rows.length y]) rfl rfl rfl (by intro v hv; simp at hv; rcases hv with rfl | rfl <;> rfl) ?_
  have s6 := Sub.put hb6 ⟨tabC N X x Y y, true⟩
  have hD6 : DrT _ (put G3 b6 ⟨tabC N X x Y y, true⟩) b5 A L c _ N X x Y y hs := ⟨hD.src.upS s6, hD.own.sub s6, hD.off, hD.kb⟩
  have n65 : b6 ≠ b5 := fun e => hD.src.all.kb (by rw [← e]; exact hb6)
  have r0 : rd (del (put G3 b6 ⟨tabC N X x Y y, true⟩) b5) (some ⟨b6, 0, none⟩) = some (.slice X N.cols.length x) := by simp only [rd, del_ne _ n65, put_same]; rfl
  have r1 : rd (del (put G3 b6 ⟨tabC N X x Y y, true⟩) b5) (some ⟨b6, 1, none⟩) = some (.slice Y N.rows.length y) := by simp only [rd, del_ne _ n65, put_same]; rfl
  have s36 := s3.trans (Sub.delm s6 b5)
  clear hD s6
  have e0 : put G3 b6 ⟨[.slice X N.cols.length x, .slice Y N.rows.length y], true⟩ = put G3 b6 ⟨tabC N X x Y y, true⟩ := rfl
  rw [e0]
  clear e0
  revert hD6 r0 r1 s36
  generalize put G3 b6 ⟨tabC N X x Y y, true⟩ = G4
  intro hD r0 r1 s36
  have l0 := rd_sub (Sub.del G4 b5) r0
  have l1 := rd_sub (Sub.del G4 b5) r1
  simp (maxSteps := 300000) (disch := omega) only [gs, gs2, gs3, gs4, ↓reduceIte, Nat.reduceEqDiff, Int.reduceToNat, Nat.reduceMul, Nat.reduceAdd, Nat.reduceBEq, isLd, l0, l1]
  refine spec_l20DrawOk_ok hD.src.all (by omega) fun G5 M X' x' Y' y' hs' hM h1 h2 h3 => ?_
  simp (maxSteps := 300000) (disch := omega) only [gs, gs2, gs3, gs4, ↓reduceIte, Nat.reduceEqDiff, Int.reduceToNat, Nat.reduceMul, Nat.reduceAdd, Nat.reduceBEq, isLd]
  have l0 := rd_sub hM.src.sub r0
  have l1 := rd_sub hM.src.sub r1
  simp (maxSteps := 300000) (disch := omega) only [gs, gs2, gs3, gs4, ↓reduceIte, Nat.reduceEqDiff, Int.reduceToNat, Nat.reduceMul, Nat.reduceAdd, Nat.reduceBEq, isLd, l0, l1]
  refine spec_l20Bend_ok hM h1 h2 h3 (by omega) fun G6 M X' x' Y' y' hs' hM hMs => ?_
  clear h1 h2 h3
  have l0 := rd_sub hM.src.sub r0
  have l1 := rd_sub hM.src.sub r1
  have s56 := s36.trans (hM.src.sub)
  have hD := hD.step hM.src
  unfold tabV tabC
  simp (maxSteps := 300000) (disch := omega) only [gs, gs2, gs3, gs4, ↓reduceIte, Nat.reduceEqDiff, Int.reduceToNat, Nat.reduceMul, Nat.reduceAdd, Nat.reduceBEq, isLd, l0, l1]
  have f2 := s56 _ _ e2
  have f3 := s56 _ _ e3
  refine st_many (vs := [.slice X N.cols.length x, .slice Y N.rows.length y]) rfl f2 rfl (by simp [zT]) (by intro v hv; simp at hv; rcases hv with rfl | rfl <;> rfl) ?_
  unfold zT
  simp only [over, List.set_cons_zero, List.set_cons_succ]
  simp (maxSteps := 300000) (disch := omega) only [gs, gs2, gs3, gs4, ↓reduceIte, Nat.reduceEqDiff, Int.reduceToNat, Nat.reduceMul, Nat.reduceAdd, Nat.reduceBEq, isLd]
  have f3' := (put_ne G6 ⟨[.slice X N.cols.length x, .slice Y N.rows.length y], true⟩ n32).trans f3
  refine st_many (vs := [.slice X' M.cols.length x', .slice Y' M.rows.length y']) rfl f3' rfl (by simp [zT]) (by intro v hv; simp at hv; rcases hv with rfl | rfl <;> rfl) ?_
  unfold zT
  simp only [over, List.set_cons_zero, List.set_cons_succ]
  have nD : del G4 b5 b2 ≠ none := by rw [s36 _ _ e2]; simp
  have nD' : del G4 b5 b3 ≠ none := by rw [s36 _ _ e3]; simp
  have nE : G4 b2 ≠ none := by rw [Sub.del G4 b5 _ _ (s36 _ _ e2)]; simp
  have nE' : G4 b3 ≠ none := by rw [Sub.del G4 b5 _ _ (s36 _ _ e3)]; simp
  have oN := hD.wr2 (q := b2) (q' := b3) (by rw [q2]; simp) (by rw [q3]; simp) ⟨[.slice X N.cols.length x, .slice Y N.rows.length y], true⟩ ⟨[.slice X' M.cols.length x', .slice Y' M.rows.length y'], true⟩
  have oM := hM.wr2 (q := b2) (q' := b3) nE nE' ⟨[.slice X N.cols.length x, .slice Y N.rows.length y], true⟩ ⟨[.slice X' M.cols.length x', .slice Y' M.rows.length y'], true⟩
  have hG : Sub G (put (put G6 b2 ⟨[.slice X N.cols.length x, .slice Y N.rows.length y], true⟩) b3 ⟨[.slice X' M.cols.length x', .slice Y' M.rows.length y'], true⟩) := ((s2.trans s56).skip hb2).skip g3
  have k0 : rd (put (put G6 b2 ⟨[.slice X N.cols.length x, .slice Y N.rows.length y], true⟩) b3 ⟨[.slice X' M.cols.length x', .slice Y' M.rows.length y'], true⟩) (some ⟨b2, 0, none⟩) = some (.slice X N.cols.length x) := by simp only [rd, put_ne _ _ (Ne.symm n32), put_same]; rfl
  have k1 : rd (put (put G6 b2 ⟨[.slice X N.cols.length x, .slice Y N.rows.length y], true⟩) b3 ⟨[.slice X' M.cols.length x', .slice Y' M.rows.length y'], true⟩) (some ⟨b2, 1, none⟩) = some (.slice Y N.rows.length y) := by simp only [rd, put_ne _ _ (Ne.symm n32), put_same]; rfl
  have k2 : rd (put (put G6 b2 ⟨[.slice X N.cols.length x, .slice Y N.rows.length y], true⟩) b3 ⟨[.slice X' M.cols.length x', .slice Y' M.rows.length y'], true⟩) (some ⟨b3, 0, none⟩) = some (.slice X' M.cols.length x') := by simp only [rd, put_same]; rfl
  have k3 : rd (put (put G6 b2 ⟨[.slice X N.cols.length x, .slice Y N.rows.length y], true⟩) b3 ⟨[.slice X' M.cols.length x', .slice Y' M.rows.length y'], true⟩) (some ⟨b3, 1, none⟩) = some (.slice Y' M.rows.length y') := by simp only [rd, put_same]; rfl
  simp (maxSteps := 300000) (disch := omega) only [gs, gs2, gs3, gs4, ↓reduceIte, Nat.reduceEqDiff, Int.reduceToNat, Nat.reduceMul, Nat.reduceAdd, Nat.reduceBEq, isLd, k0, k1, k2, k3]
  exact ⟨_, Sub.refl _, hk _ N X x Y y hs M X' x' Y' y' hs' hN hMs hG oN.cols.ints oN.rows.rows oM.cols.ints oM.rows.rows⟩
theorem Src.kb' {H G : GH} {b : Nat} {A : Option Addr} {L c p : Nat} (h : Src H G b A L c p) : G b ≠ none := h.kb
def h0T : TH := ⟨none, 0, none, 0, fun _ => (none, 0)⟩
theorem rowsN (G : GH) (hs : Nat → Option Addr × Nat) : RowS G none 0 hs [] := ⟨by simp, fun i hi => by simp at hi, fun i hi => by simp at hi⟩
theorem zeroTabs {G : GH} {b n : Nat} (h : G b = some ⟨zc [.slice none 0 0, .slice none 0 0] n, true⟩) : TabsS G (some ⟨b, 0, none⟩) n (fun _ => h0T) (List.replicate n t0) := by
  have hl : (List.replicate n t0).length = n := by simp
  have hz : zc [Value.slice none 0 0, .slice none 0 0] n = List.replicate (n * 2) (.slice none 0 0) := by
    rw [show [Value.slice none 0 0, .slice none 0 0] = List.replicate 2 (.slice none 0 0) from rfl, zc_rep]
  rw [hz] at h
  have hg : ∀ i, i < n → (List.replicate n t0).getD i t0 = t0 := fun i hi => by simp [List.getD, hi]
  have hr : ∀ k, k < n * 2 → rd G (pa (some ⟨b, 0, none⟩) k) = some (.slice none 0 0) := fun k hk => by
    rw [pa_mk]; simp only [rd, h, Nat.zero_add, Option.bind_some, List.getElem?_replicate, hk, if_true]
  refine ⟨by omega, fun i hi => ?_, fun i hi => ?_, fun i hi => ?_, fun i hi => ?_⟩ <;> rw [hl] at hi <;> rw [hg i hi]
  · exact hr _ (by omega)
  · exact hr _ (by omega)
  · exact IntS.nil _ _ _
  · exact rowsN _ _
theorem cells_all {vs : List Value} {n : Nat} (h : (vs.all fun v => v.cells.size == n) = true) : ∀ v ∈ vs, v.cells.size = n := by
  intro v hv
  have := List.all_eq_true.1 h v hv
  simpa using this
def h2R (b1 b2 : Nat) (i : Nat) : Option Addr × Nat := if i = 0 then (some ⟨b1, 0, none⟩, 2) else (some ⟨b2, 0, none⟩, 2)
theorem lit2 {G : GH} {b b1 b2 b3 : Nat} (x1 x2 y1 y2 : Int) (kb : G b ≠ none) (h1 : G b1 = none) (h2 : put G b1 ⟨[I64 x1, I64 x2], true⟩ b2 = none) (h3 : put (put G b1 ⟨[I64 x1, I64 x2], true⟩) b2 ⟨[I64 y1, I64 y2], true⟩ b3 = none) :
    Sub G (put (put (put G b1 ⟨[I64 x1, I64 x2], true⟩) b2 ⟨[I64 y1, I64 y2], true⟩) b3 ⟨[.slice (some ⟨b1, 0, none⟩) 2 2, .slice (some ⟨b2, 0, none⟩) 2 2], true⟩) ∧
    RowS (del (put (put (put G b1 ⟨[I64 x1, I64 x2], true⟩) b2 ⟨[I64 y1, I64 y2], true⟩) b3 ⟨[.slice (some ⟨b1, 0, none⟩) 2 2, .slice (some ⟨b2, 0, none⟩) 2 2], true⟩) b) (some ⟨b3, 0, none⟩) 2 (h2R b1 b2) [[x1, x2], [y1, y2]] := by
  have s := ((Sub.put h1 ⟨[I64 x1, I64 x2], true⟩).trans (Sub.put h2 ⟨[I64 y1, I64 y2], true⟩)).trans (Sub.put h3 ⟨[.slice (some ⟨b1, 0, none⟩) 2 2, .slice (some ⟨b2, 0, none⟩) 2 2], true⟩)
  refine ⟨s, ?_⟩
  have n : ∀ {q}, G q = none → q ≠ b := fun hq e => kb (by rw [← e]; exact hq)
  obtain ⟨n21, g2⟩ := put_none.1 h2
  obtain ⟨n32, h3'⟩ := put_none.1 h3
  obtain ⟨n31, g3⟩ := put_none.1 h3'
  have k1 : del (put (put (put G b1 ⟨[I64 x1, I64 x2], true⟩) b2 ⟨[I64 y1, I64 y2], true⟩) b3 ⟨[.slice (some ⟨b1, 0, none⟩) 2 2, .slice (some ⟨b2, 0, none⟩) 2 2], true⟩) b b1 = some ⟨[x1, x2].map I64, true⟩ := by
    rw [del_ne _ (n h1), put_ne _ _ (Ne.symm n31), put_ne _ _ (Ne.symm n21)]; exact put_same _ _ _
  have k2 : del (put (put (put G b1 ⟨[I64 x1, I64 x2], true⟩) b2 ⟨[I64 y1, I64 y2], true⟩) b3 ⟨[.slice (some ⟨b1, 0, none⟩) 2 2, .slice (some ⟨b2, 0, none⟩) 2 2], true⟩) b b2 = some ⟨[y1, y2].map I64, true⟩ := by
    rw [del_ne _ (n g2), put_ne _ _ (Ne.symm n32)]; exact put_same _ _ _
  have k3 : del (put (put (put G b1 ⟨[I64 x1, I64 x2], true⟩) b2 ⟨[I64 y1, I64 y2], true⟩) b3 ⟨[.slice (some ⟨b1, 0, none⟩) 2 2, .slice (some ⟨b2, 0, none⟩) 2 2], true⟩) b b3 = some ⟨[.slice (some ⟨b1, 0, none⟩) 2 2, .slice (some ⟨b2, 0, none⟩) 2 2], true⟩ := by
    rw [del_ne _ (n g3)]; exact put_same _ _ _
  refine ⟨by simp, fun i hi => ?_, fun i hi => ?_⟩
  · have : i = 0 ∨ i = 1 := by simp at hi; omega
    rcases this with rfl | rfl <;> rw [pa_mk] <;> simp only [rd, k3] <;> rfl
  · have : i = 0 ∨ i = 1 := by simp at hi; omega
    rcases this with rfl | rfl
    · exact blk_ints k1
    · exact blk_ints k2
def h3T (b1 b2 b3 : Nat) (Y Y' : Option Addr) (hs hs' : Nat → Option Addr × Nat) (i : Nat) : TH := if i = 0 then ⟨some ⟨b1, 0, none⟩, 2, Y, 2, hs⟩ else if i = 1 then ⟨some ⟨b2, 0, none⟩, 2, Y, 2, hs⟩ else ⟨some ⟨b3, 0, none⟩, 2, Y', 2, hs'⟩
theorem lt3 {i : Nat} (h : i < 3) : i = 0 ∨ i = 1 ∨ i = 2 := by omega
def h3R (b1 b2 b3 : Nat) (i : Nat) : Option Addr × Nat := if i = 0 then (some ⟨b1, 0, none⟩, 3) else if i = 1 then (some ⟨b2, 0, none⟩, 3) else (some ⟨b3, 0, none⟩, 3)
def tP : Tab := ⟨[0, 1, 2], [[0, 0, 1], [1, 0, 2], [1, 1, 0]]⟩
def e6P (b1 b5 : Nat) : Ent := ⟨[.slice (some ⟨b1, 0, none⟩) 3 3, .slice (some ⟨b5, 0, none⟩) 3 3], true⟩
def pP (G : GH) (b1 b2 b3 b4 b5 b6 : Nat) : GH := put (put (put (put (put (put G b1 ⟨[I64 0, I64 1, I64 2], true⟩) b2 ⟨[I64 0, I64 0, I64 1], true⟩) b3 ⟨[I64 1, I64 0, I64 2], true⟩) b4 ⟨[I64 1, I64 1, I64 0], true⟩) b5 ⟨[.slice (some ⟨b2, 0, none⟩) 3 3, .slice (some ⟨b3, 0, none⟩) 3 3, .slice (some ⟨b4, 0, none⟩) 3 3], true⟩) b6 (e6P b1 b5)
theorem par_box {G : GH} {b1 b2 b3 b4 b5 b6 : Nat} (h1 : G b1 = none) (h2 : put G b1 ⟨[I64 0, I64 1, I64 2], true⟩ b2 = none) (h3 : put (put G b1 ⟨[I64 0, I64 1, I64 2], true⟩) b2 ⟨[I64 0, I64 0, I64 1], true⟩ b3 = none) (h4 : put (put (put G b1 ⟨[I64 0, I64 1, I64 2], true⟩) b2 ⟨[I64 0, I64 0, I64 1], true⟩) b3 ⟨[I64 1, I64 0, I64 2], true⟩ b4 = none)
    (h5 : put (put (put (put G b1 ⟨[I64 0, I64 1, I64 2], true⟩) b2 ⟨[I64 0, I64 0, I64 1], true⟩) b3 ⟨[I64 1, I64 0, I64 2], true⟩) b4 ⟨[I64 1, I64 1, I64 0], true⟩ b5 = none)
    (h6 : put (put (put (put (put G b1 ⟨[I64 0, I64 1, I64 2], true⟩) b2 ⟨[I64 0, I64 0, I64 1], true⟩) b3 ⟨[I64 1, I64 0, I64 2], true⟩) b4 ⟨[I64 1, I64 1, I64 0], true⟩) b5 ⟨[.slice (some ⟨b2, 0, none⟩) 3 3, .slice (some ⟨b3, 0, none⟩) 3 3, .slice (some ⟨b4, 0, none⟩) 3 3], true⟩ b6 = none) :
    Sub G (pP G b1 b2 b3 b4 b5 b6) ∧ TabP (rest G (pP G b1 b2 b3 b4 b5 b6)) (some ⟨b6, 0, none⟩) tP (some ⟨b1, 0, none⟩) 3 (some ⟨b5, 0, none⟩) 3 (h3R b2 b3 b4) := by
  have s1 := Sub.put h1 ⟨[I64 0, I64 1, I64 2], true⟩
  have s2 := Sub.put h2 ⟨[I64 0, I64 0, I64 1], true⟩
  have s3 := Sub.put h3 ⟨[I64 1, I64 0, I64 2], true⟩
  have s4 := Sub.put h4 ⟨[I64 1, I64 1, I64 0], true⟩
  have s5 := Sub.put h5 ⟨[.slice (some ⟨b2, 0, none⟩) 3 3, .slice (some ⟨b3, 0, none⟩) 3 3, .slice (some ⟨b4, 0, none⟩) 3 3], true⟩
  have s6 := Sub.put h6 (e6P b1 b5)
  have s45 := s4.trans s5
  have s35 := s3.trans s45
  have s25 := s2.trans s35
  have k1 := rest_some.2 ⟨h1, (s25.trans s6) _ _ (put_same _ _ _)⟩
  have k2 := rest_some.2 ⟨s1.none h2, (s35.trans s6) _ _ (put_same _ _ _)⟩
  have k3 := rest_some.2 ⟨(s1.trans s2).none h3, (s45.trans s6) _ _ (put_same _ _ _)⟩
  have k4 := rest_some.2 ⟨((s1.trans s2).trans s3).none h4, (s5.trans s6) _ _ (put_same _ _ _)⟩
  have k5 := rest_some.2 ⟨(((s1.trans s2).trans s3).trans s4).none h5, s6 _ _ (put_same _ _ _)⟩
  have k6 := rest_some.2 ⟨(s1.trans s25).none h6, put_same (put (put (put (put (put G b1 ⟨[I64 0, I64 1, I64 2], true⟩) b2 ⟨[I64 0, I64 0, I64 1], true⟩) b3 ⟨[I64 1, I64 0, I64 2], true⟩) b4 ⟨[I64 1, I64 1, I64 0], true⟩) b5 ⟨[.slice (some ⟨b2, 0, none⟩) 3 3, .slice (some ⟨b3, 0, none⟩) 3 3, .slice (some ⟨b4, 0, none⟩) 3 3], true⟩) b6 (e6P b1 b5)⟩
  refine ⟨(s1.trans s25).trans s6, (congrArg (fun e => Option.bind e _) k6).trans rfl, ?_, blk_ints (xs := [0, 1, 2]) k1, by show 3 ≤ 3; omega, fun i hi => ?_, fun i hi => ?_⟩
  · rw [pa_mk]; exact (congrArg (fun e => Option.bind e _) k6).trans rfl
  · rcases lt3 hi with rfl | rfl | rfl <;> rw [pa_mk] <;> exact (congrArg (fun e => Option.bind e _) k5).trans rfl
  · rcases lt3 hi with rfl | rfl | rfl
    · exact blk_ints (xs := [0, 0, 1]) k2
    · exact blk_ints (xs := [1, 0, 2]) k3
    · exact blk_ints (xs := [1, 1, 0]) k4
theorem sl_hd {A : Option Addr} {n c h sz : Nat} (hh : h ≤ c) : slV sz (.slice A n c) none (some (.int .i64 (h : Int))) = some (.slice A h c) := by
  have e : ((h : Int)).toNat = h := by omega
  simp only [slV, onSl, bndV, onInt]
  rw [if_pos ⟨by omega, by omega⟩, e]
  simp [pa_zero]
theorem TabP.beside {G G' : GH} {b : Nat} {Z : Option Addr} {q : Option Addr} {t : Tab} {A B : Option Addr} {c d : Nat} {hs : Nat → Option Addr × Nat} (h : TabP (rest G G') q t A c B d hs) (kb : G b ≠ none) (kz : ∀ a, Z = some a → G a.block ≠ none) : TabP (wz (del G' b) Z) q t A c B d hs := h.sub (rest_wz kb kz)
theorem tP_rowL : RowL tP := fun i hi => by rcases lt3 hi with rfl | rfl | rfl <;> rfl
theorem pset_dsm {ws : List Int} (h : ws.length ≤ 100) : DSm (projT tP ws) := by
  refine ⟨h, ?_, fun r hr => ?_⟩
  · have := srt_len ((tP.rows).map (prj tP.cols ws))
    show (srt _).length ≤ _
    simp [tP] at this ⊢; omega
  · have hr : r ∈ srt ((tP.rows).map (prj tP.cols ws)) := hr
    rw [srt_mem, List.mem_map] at hr
    obtain ⟨x, _, rfl⟩ := hr
    rw [prj_len]; exact h
theorem dl_fin0 {G0 G : GH} {Y Y' : Option Addr} {hs hs' : Nat → Option Addr × Nat} {x1 x2 y1 y2 x1' x2' y1' y2' : Int} {X : GCode} {T : Nat → Value} {K : Value → GH → Prop} (s0 : Sub G0 G) (t4 : T 4 = .slice Y 2 2) (t5 : T 5 = .slice Y' 2 2) (h : RowS G Y 2 hs [[x1, x2], [y1, y2]]) (h' : RowS G Y' 2 hs' [[x1', x2'], [y1', y2']])
    (hk : ∀ G' Z z H ts, Sub G0 G' → TabsS G' Z z H ts → TabsSm ts → K (.slice Z ts.length z) G') : gW Tryz.prog (.seq (.reg c_spec_l20DrawList_8) (.ret)) (BlkK 0 (SeqK (gW Tryz.prog X) (RetK [RV.t 2] K))) T G := by
  have hb1 : ∀ b1, bldV [Value.slice none 0 0, .slice none 0 0] [(0, 1, .slice (some ⟨b1, 0, none⟩) 2 2), (1, 1, .slice Y 2 2)] = some [.slice (some ⟨b1, 0, none⟩) 2 2, .slice Y 2 2] := fun _ => rfl
  have hb2 : ∀ b1, bldV [Value.slice none 0 0, .slice none 0 0] [(0, 1, .slice (some ⟨b1, 0, none⟩) 2 2), (1, 1, .slice Y' 2 2)] = some [.slice (some ⟨b1, 0, none⟩) 2 2, .slice Y' 2 2] := fun _ => rfl
  simp (maxSteps := 300000) (disch := omega) only [gs, gs2, gs3, gs4, ↓reduceIte, Nat.reduceEqDiff, Int.reduceToNat, Nat.reduceMul, Nat.reduceAdd, Nat.reduceBEq, isLd, t4, t5, gBs, hb1, hb2]
  refine ⟨cells_all rfl, fun b1 h1 => ⟨cells_all rfl, fun b2 h2 => ⟨cells_all rfl, fun b3 h3 => ⟨cells_all rfl, fun b6 h6 => ?_⟩⟩⟩⟩
  have s1 := Sub.put h1 ⟨[0, 1].map I64, true⟩
  have s2 := Sub.put (show put G b1 ⟨[0, 1].map I64, true⟩ b2 = none from h2) ⟨[1, 2].map I64, true⟩
  have s3 := Sub.put (show put (put G b1 ⟨[0, 1].map I64, true⟩) b2 ⟨[1, 2].map I64, true⟩ b3 = none from h3) ⟨[0, 2].map I64, true⟩
  have s6 := Sub.put (show put (put (put G b1 ⟨[0, 1].map I64, true⟩) b2 ⟨[1, 2].map I64, true⟩) b3 ⟨[0, 2].map I64, true⟩ b6 = none from h6) ⟨[.slice (some ⟨b1, 0, none⟩) 2 2, .slice Y 2 2, .slice (some ⟨b2, 0, none⟩) 2 2, .slice Y 2 2, .slice (some ⟨b3, 0, none⟩) 2 2, .slice Y' 2 2], true⟩
  have k1 := (((s2.trans s3).trans s6) _ _ (put_same _ _ _))
  have k2 := ((s3.trans s6) _ _ (put_same _ _ _))
  have k3 := (s6 _ _ (put_same _ _ _))
  have k6 := put_same (put (put (put G b1 ⟨[0, 1].map I64, true⟩) b2 ⟨[1, 2].map I64, true⟩) b3 ⟨[0, 2].map I64, true⟩) b6 ⟨[.slice (some ⟨b1, 0, none⟩) 2 2, .slice Y 2 2, .slice (some ⟨b2, 0, none⟩) 2 2, .slice Y 2 2, .slice (some ⟨b3, 0, none⟩) 2 2, .slice Y' 2 2], true⟩
  have sA := (((s1.trans s2).trans s3).trans s6)
  refine hk _ (some ⟨b6, 0, none⟩) 3 (h3T b1 b2 b3 Y Y' hs hs') [⟨[0, 1], [[x1, x2], [y1, y2]]⟩, ⟨[1, 2], [[x1, x2], [y1, y2]]⟩, ⟨[0, 2], [[x1', x2'], [y1', y2']]⟩] (s0.trans sA) ⟨by simp, fun i hi => ?_, fun i hi => ?_, fun i hi => ?_, fun i hi => ?_⟩ ?_
  · rcases lt3 hi with rfl | rfl | rfl <;> rw [pa_mk] <;> simp only [rd] <;> refine (congrArg (fun e => Option.bind e _) k6).trans rfl
  · rcases lt3 hi with rfl | rfl | rfl <;> rw [pa_mk] <;> simp only [rd] <;> refine (congrArg (fun e => Option.bind e _) k6).trans rfl
  · rcases lt3 hi with rfl | rfl | rfl
    · exact blk_ints k1
    · exact blk_ints k2
    · exact blk_ints k3
  · rcases lt3 hi with rfl | rfl | rfl
    · exact h.sub sA
    · exact h.sub sA
    · exact h'.sub sA
  · refine dsm_tabs (by simp) fun t ht => ?_
    simp only [List.mem_cons, List.not_mem_nil, or_false] at ht
    rcases ht with rfl | rfl | rfl <;> exact ⟨by simp, by simp, fun r hr => by
      simp only [List.mem_cons, List.not_mem_nil, or_false] at hr
      rcases hr with rfl | rfl <;> simp⟩
theorem spec_l20DrawList_ok {G : GH} {b : Nat} {A : Option Addr} {L c p : Nat} (h : Src (del G b) G b A L c p) (hp : p < 2 ^ 29) {K : Value → GH → Prop}
    (hk : ∀ G' Z z H ts, Sub (del G b) G' → TabsS G' Z z H ts → TabsSm ts → K (.slice Z ts.length z) G') : GC Tryz.prog 115 [.pointer (some ⟨b, 0, none⟩)] G K := by
  refine c_spec_l20DrawList_i (by simp) ?_
  have kb := h.kb
  have hw0 := @dl_fin0
  unfold c_spec_l20DrawList
  generalize c_spec_l20DrawList_8 = R8 at hw0 ⊢
  simp (maxSteps := 300000) (disch := omega) only [gs, gs2, gs3, gs4, ↓reduceIte, Nat.reduceEqDiff, Int.reduceToNat, Nat.reduceMul, Nat.reduceAdd, Nat.reduceBEq, isLd, gBs]
  refine ⟨fun v hv => (by cases hv), fun bo hbo => ?_⟩
  have hD : DL G (put G bo ⟨[], true⟩) b A L c p (some ⟨bo, 0, none⟩) 0 (fun _ => h0T) [] := ⟨h.upS (Sub.put hbo _), Own.blk (put_same _ _ _) rfl, fun i hi => by simp at hi, fun i hi => by simp at hi, fun a ha => by cases ha; exact hbo, kb⟩
  have e0 : put G bo ⟨List.flatMap (fun v : Value => v.cells.toList) [], true⟩ = put G bo ⟨[], true⟩ := rfl
  rw [e0]
  revert hD
  generalize put G bo ⟨[], true⟩ = G1
  intro hD
  clear e0
  refine spec_pick_ok hD.src.all (by omega) (by omega) fun v G2 v0 v1 _ s2 => ?_
  have hD := hD.step s2
  by_cases c0 : v = 0
  · subst c0
    simp (maxSteps := 300000) (disch := omega) only [gs, gs2, gs3, gs4, ↓reduceIte, Nat.reduceEqDiff, Int.reduceToNat, Nat.reduceMul, Nat.reduceAdd, Nat.reduceBEq, isLd, gBs]
    refine ⟨cells_all rfl, fun b1 h1 => ⟨cells_all rfl, fun b2 h2 => ⟨cells_all rfl, fun b3 h3 => ⟨cells_all rfl, fun b4 h4 => ⟨cells_all rfl, fun b5 h5 => ⟨cells_all rfl, fun b6 h6 => ?_⟩⟩⟩⟩⟩⟩
    obtain ⟨s3, r3⟩ := lit2 0 0 1 1 hD.src.kb' h1 h2 h3
    have k3 := (hD.up s3).src.kb'
    obtain ⟨s6, r6⟩ := lit2 0 1 1 0 k3 h4 h5 h6
    have r3' := r3.sub (Sub.delm s6 b)
    have hD6 := (hD.up s3).up s6
    refine spec_one_ok hD6.src.all (n := 2) (by omega) (by omega) fun v G7 s7 => ?_
    have r3 := r3'.sub s7.sub
    have r6 := r6.sub s7.sub
    have hD7 := hD6.step s7
    cases v
    · simp (maxSteps := 300000) (disch := omega) only [gs, gs2, gs3, gs4, ↓reduceIte, Nat.reduceEqDiff, Int.reduceToNat, Nat.reduceMul, Nat.reduceAdd, Nat.reduceBEq, isLd]
      exact hw0 hD7.src.sub (by simp (maxSteps := 300000) (disch := omega) only [gs, gs2, gs3, gs4, ↓reduceIte, Nat.reduceEqDiff, Int.reduceToNat, Nat.reduceMul, Nat.reduceAdd, Nat.reduceBEq, isLd] <;> rfl) (by simp (maxSteps := 300000) (disch := omega) only [gs, gs2, gs3, gs4, ↓reduceIte, Nat.reduceEqDiff, Int.reduceToNat, Nat.reduceMul, Nat.reduceAdd, Nat.reduceBEq, isLd] <;> rfl) r3 r6 hk
    · simp (maxSteps := 300000) (disch := omega) only [gs, gs2, gs3, gs4, ↓reduceIte, Nat.reduceEqDiff, Int.reduceToNat, Nat.reduceMul, Nat.reduceAdd, Nat.reduceBEq, isLd, gBs]
      refine ⟨cells_all rfl, fun c1 h1 => ⟨cells_all rfl, fun c2 h2 => ⟨cells_all rfl, fun c3 h3 => ?_⟩⟩⟩
      obtain ⟨s8, r8⟩ := lit2 0 0 1 1 hD7.src.kb' h1 h2 h3
      exact hw0 (hD7.src.sub.trans s8) (by simp (maxSteps := 300000) (disch := omega) only [gs, gs2, gs3, gs4, ↓reduceIte, Nat.reduceEqDiff, Int.reduceToNat, Nat.reduceMul, Nat.reduceAdd, Nat.reduceBEq, isLd] <;> rfl) (by simp (maxSteps := 300000) (disch := omega) only [gs, gs2, gs3, gs4, ↓reduceIte, Nat.reduceEqDiff, Int.reduceToNat, Nat.reduceMul, Nat.reduceAdd, Nat.reduceBEq, isLd] <;> rfl) (r3.sub s8) (r8.sub (Sub.del _ _)) hk
  have e0' : (v = 0) = False := eq_false c0
  by_cases c1 : v = 1
  · subst c1
    have hbt : ∀ b1 b2, bldV [Value.slice none 0 0, .slice none 0 0] [(0, 1, .slice (some ⟨b1, 0, none⟩) 3 3), (1, 1, .slice (some ⟨b2, 0, none⟩) 3 3)] = some [.slice (some ⟨b1, 0, none⟩) 3 3, .slice (some ⟨b2, 0, none⟩) 3 3] := fun _ _ => rfl
    simp (maxSteps := 300000) (disch := omega) only [gs, gs2, gs3, gs4, ↓reduceIte, Nat.reduceEqDiff, Int.reduceToNat, Nat.reduceMul, Nat.reduceAdd, Nat.reduceBEq, isLd, eq_false (show ¬ (1 : Int) = 0 by decide), eq_true (show (1 : Int) = 1 from rfl), gBs, hbt]
    refine ⟨cells_all rfl, fun b1 h1 => ⟨cells_all rfl, fun b2 h2 => ⟨cells_all rfl, fun b3 h3 => ⟨cells_all rfl, fun b4 h4 => ⟨cells_all rfl, fun b5 h5 => ?_⟩⟩⟩⟩⟩
    intro b6 h6
    simp (maxSteps := 300000) (disch := omega) only [gs, gs2, gs3, gs4, ↓reduceIte, Nat.reduceEqDiff, Int.reduceToNat, Nat.reduceMul, Nat.reduceAdd, Nat.reduceBEq, isLd]
    refine st_fresh (vs := [.slice (some ⟨b1, 0, none⟩) 3 3, .slice (some ⟨b5, 0, none⟩) 3 3]) rfl rfl rfl (by intro v hv; simp at hv; rcases hv with rfl | rfl <;> rfl) ?_
    obtain ⟨s6, p6⟩ := par_box h1 h2 h3 h4 h5 h6
    have p6 := p6.beside (b := b) (Z := some ⟨bo, 0, none⟩) hD.src.kb' (fun a ha => own_ne hD.out a ha)
    have hD6 := hD.up s6
    simp (maxSteps := 300000) (disch := omega) only [gs, gs2, gs3, gs4, ↓reduceIte, Nat.reduceEqDiff, Int.reduceToNat, Nat.reduceMul, Nat.reduceAdd, Nat.reduceBEq, isLd, gBs]
    refine ⟨cells_all rfl, fun b7 h7 => ?_⟩
    have s7 := Sub.put (show pP G2 b1 b2 b3 b4 b5 b6 b7 = none from h7) ⟨[0, 1].map I64, true⟩
    have hD7 := hD6.up s7
    have p7 := p6.sub (Sub.wz_mono (Sub.delm s7 b))
    refine spec_l20Project_ok (p7.sub ((Sub.wz _ _).trans (Sub.del _ _))) (blk_ints (xs := [0, 1]) (put_same _ _ _)) (by decide) (by decide) (by decide) tP_rowL (by decide) fun G8 X x Y y hs hN => ?_
    unfold tabV tabC
    simp (maxSteps := 300000) (disch := omega) only [gs, gs2, gs3, gs4, ↓reduceIte, Nat.reduceEqDiff, Int.reduceToNat, Nat.reduceMul, Nat.reduceAdd, Nat.reduceBEq, isLd, gBs]
    refine ⟨cells_all rfl, fun b8 h8 => ?_⟩
    have s8 := Sub.put h8 ⟨tabC (projT tP [0, 1]) X x Y y, true⟩
    have hD8 := (hD7.up hN.sub).up s8
    have w8 := Sub.wz_mono (Z := some ⟨bo, 0, none⟩) (Sub.delm s8 b)
    have o8 := (hN.beside hD7).sub w8
    have p8 := (p7.sub (Sub.wz_mono (Sub.delm hN.sub b))).sub w8
    refine hD8.add (t := projT tP [0, 1]) (hh := ⟨X, x, Y, y, hs⟩) o8.cols.ints o8.rows.rows (put_same _ _ _) (by simp) fun G9 Z z H hD9 w9 => ?_
    have p9 := p8.sub w9
    clear o8 w8 w9 hD8 s8 hN p8 p7 hD7 h8
    simp (maxSteps := 300000) (disch := omega) only [gs, gs2, gs3, gs4, ↓reduceIte, Nat.reduceEqDiff, Int.reduceToNat, Nat.reduceMul, Nat.reduceAdd, Nat.reduceBEq, isLd, gBs]
    refine ⟨cells_all rfl, fun b7 h7 => ?_⟩
    have s7 := Sub.put h7 ⟨[1, 2].map I64, true⟩
    have hD7 := hD9.up s7
    have p7 := p9.sub (Sub.wz_mono (Sub.delm s7 b))
    refine spec_l20Project_ok (p7.sub ((Sub.wz _ _).trans (Sub.del _ _))) (blk_ints (xs := [1, 2]) (put_same _ _ _)) (by decide) (by decide) (by decide) tP_rowL (by decide) fun G8 X x Y y hs hN => ?_
    clear hD9 p9
    unfold tabV tabC
    simp (maxSteps := 300000) (disch := omega) only [gs, gs2, gs3, gs4, ↓reduceIte, Nat.reduceEqDiff, Int.reduceToNat, Nat.reduceMul, Nat.reduceAdd, Nat.reduceBEq, isLd, gBs]
    refine ⟨cells_all rfl, fun b8 h8 => ?_⟩
    have s8 := Sub.put h8 ⟨tabC (projT tP [1, 2]) X x Y y, true⟩
    have hD8 := (hD7.up hN.sub).up s8
    have w8 := Sub.wz_mono (Z := Z) (Sub.delm s8 b)
    have o8 := (hN.beside hD7).sub w8
    have p8 := (p7.sub (Sub.wz_mono (Sub.delm hN.sub b))).sub w8
    refine hD8.add (t := projT tP [1, 2]) (hh := ⟨X, x, Y, y, hs⟩) o8.cols.ints o8.rows.rows (put_same _ _ _) (by simp) fun G9 Z z H hD9 w9 => ?_
    have p9 := p8.sub w9
    clear o8 w8 w9 hD8 s8 hN p8 p7 hD7 h8
    simp (maxSteps := 300000) (disch := omega) only [gs, gs2, gs3, gs4, ↓reduceIte, Nat.reduceEqDiff, Int.reduceToNat, Nat.reduceMul, Nat.reduceAdd, Nat.reduceBEq, isLd, gBs]
    refine ⟨cells_all rfl, fun b7 h7 => ?_⟩
    have s7 := Sub.put h7 ⟨[0, 2].map I64, true⟩
    have hD7 := hD9.up s7
    have p7 := p9.sub (Sub.wz_mono (Sub.delm s7 b))
    refine spec_l20Project_ok (p7.sub ((Sub.wz _ _).trans (Sub.del _ _))) (blk_ints (xs := [0, 2]) (put_same _ _ _)) (by decide) (by decide) (by decide) tP_rowL (by decide) fun G8 X x Y y hs hN => ?_
    clear hD9 p9
    unfold tabV tabC
    simp (maxSteps := 300000) (disch := omega) only [gs, gs2, gs3, gs4, ↓reduceIte, Nat.reduceEqDiff, Int.reduceToNat, Nat.reduceMul, Nat.reduceAdd, Nat.reduceBEq, isLd, gBs]
    refine ⟨cells_all rfl, fun b8 h8 => ?_⟩
    have s8 := Sub.put h8 ⟨tabC (projT tP [0, 2]) X x Y y, true⟩
    have hD8 := (hD7.up hN.sub).up s8
    have w8 := Sub.wz_mono (Z := Z) (Sub.delm s8 b)
    have o8 := (hN.beside hD7).sub w8
    have p8 := (p7.sub (Sub.wz_mono (Sub.delm hN.sub b))).sub w8
    refine hD8.add (t := projT tP [0, 2]) (hh := ⟨X, x, Y, y, hs⟩) o8.cols.ints o8.rows.rows (put_same _ _ _) (by simp) fun G9 Z z H hD9 w9 => ?_
    have p9 := p8.sub w9
    clear o8 w8 w9 hD8 s8 hN p8 p7 hD7 h8
    simp (maxSteps := 300000) (disch := omega) only [gs, gs2, gs3, gs4, ↓reduceIte, Nat.reduceEqDiff, Int.reduceToNat, Nat.reduceMul, Nat.reduceAdd, Nat.reduceBEq, isLd]
    refine spec_pick_ok hD9.src.all (n := 3) (by omega) (by omega) fun v G10 v0 v1 _ s10 => ?_
    have hD10 := hD9.step s10
    have v1 := v1 (by omega)
    obtain ⟨vn, rfl⟩ : ∃ vn : Nat, v = vn := ⟨v.toNat, by omega⟩
    have hcap := hD10.out.cap
    have hcap' : 3 ≤ z := hcap
    have hsl := sl_hd (A := Z) (n := 3) (c := z) (h := 1 + vn) (sz := 2) (by omega)
    rw [show ((1 + vn : Nat) : Int) = 1 + (vn : Int) by omega] at hsl
    simp (maxSteps := 300000) (disch := omega) only [gs, gs2, gs3, gs4, ↓reduceIte, Nat.reduceEqDiff, Int.reduceToNat, Nat.reduceMul, Nat.reduceAdd, Nat.reduceBEq, isLd, Option.map_none, hsl]
    have hT := hD10.tabs.take (n := 1 + vn) (by simp; omega)
    have hlen : (([] ++ [projT tP [0, 1]] ++ [projT tP [1, 2]] ++ [projT tP [0, 2]]).take (1 + vn)).length = 1 + vn := by simp; omega
    have := hk G10 Z z H _ hD10.src.sub hT (dsm_tabs (by omega) fun t ht => by
      have ht := List.mem_of_mem_take ht
      simp only [List.nil_append, List.cons_append, List.mem_cons, List.not_mem_nil, or_false] at ht
      rcases ht with rfl | rfl | rfl <;> exact pset_dsm (by simp))
    rw [hlen] at this
    exact this
  have e1' : (v = 1) = False := eq_false c1
  simp (maxSteps := 300000) (disch := omega) only [gs, gs2, gs3, gs4, ↓reduceIte, Nat.reduceEqDiff, Int.reduceToNat, Nat.reduceMul, Nat.reduceAdd, Nat.reduceBEq, isLd, e0', e1']
  refine spec_pick_ok hD.src.all (by omega) (by omega) fun v G3 v0 v1 _ s3 => ?_
  have hD := hD.step s3
  have hv := v1 (by omega)
  obtain ⟨vn, rfl⟩ : ∃ vn : Nat, v = vn := ⟨v.toNat, by omega⟩
  simp (maxSteps := 300000) (disch := omega) only [gs, gs2, gs3, gs4, ↓reduceIte, Nat.reduceEqDiff, Int.reduceToNat, Nat.reduceMul, Nat.reduceAdd, Nat.reduceBEq, isLd]
  refine gLoop_intro (fun m T G' => ∃ (ts : List Tab) (Z : Option Addr) (z : Nat) (H : Nat → TH), T 0 = .pointer (some ⟨b, 0, none⟩) ∧ T 3 = .slice Z ts.length z ∧ T 7 = .int .i64 m ∧ m ≤ 4 ∧ ts.length + m ≤ 4 ∧ (∀ t ∈ ts, DSm t) ∧ DL G G' b A L c (p + 4 + 1000 * (4 - m)) Z z H ts) vn
    ⟨[], _, 0, _, by simp (maxSteps := 300000) (disch := omega) only [gs, gs2, gs3, gs4, ↓reduceIte, Nat.reduceEqDiff, Int.reduceToNat, Nat.reduceMul, Nat.reduceAdd, Nat.reduceBEq, isLd], by simp (maxSteps := 300000) (disch := omega) only [gs, gs2, gs3, gs4, ↓reduceIte, Nat.reduceEqDiff, Int.reduceToNat, Nat.reduceMul, Nat.reduceAdd, Nat.reduceBEq, isLd] <;> rfl, by simp (maxSteps := 300000) (disch := omega) only [gs, gs2, gs3, gs4, ↓reduceIte, Nat.reduceEqDiff, Int.reduceToNat, Nat.reduceMul, Nat.reduceAdd, Nat.reduceBEq, isLd], by omega, by simp; omega, fun t ht => (by cases ht), hD.le (by omega)⟩ ?_
  clear hD v0 v1 hv s3 s2 e0' e1' c0 c1
  rintro m T G4 ⟨ts, Z, z, H, t0', t3, t7, hm, htm, hsm, hD⟩
  simp (maxSteps := 300000) (disch := omega) only [gs, gs2, gs3, gs4, ↓reduceIte, Nat.reduceEqDiff, Int.reduceToNat, Nat.reduceMul, Nat.reduceAdd, Nat.reduceBEq, isLd, t0', t3, t7]
  by_cases hm0 : (0 : Int) < m
  · simp (maxSteps := 300000) (disch := omega) only [gs, gs2, gs3, gs4, ↓reduceIte, Nat.reduceEqDiff, Int.reduceToNat, Nat.reduceMul, Nat.reduceAdd, Nat.reduceBEq, isLd, t0', t3, t7, hm0]
    refine spec_l20DrawOk_ok hD.src.all (by omega) fun G5 N X x Y y hs hN h1 h2 h3 => ?_
    unfold tabV tabC
    simp (maxSteps := 300000) (disch := omega) only [gs, gs2, gs3, gs4, ↓reduceIte, Nat.reduceEqDiff, Int.reduceToNat, Nat.reduceMul, Nat.reduceAdd, Nat.reduceBEq, isLd, t0', t3, t7, gBs]
    refine ⟨cells_all rfl, fun b8 h8 => ?_⟩
    have s8 := Sub.put h8 ⟨tabC N X x Y y, true⟩
    have hD8 := (hD.step hN.src).up s8
    have o8 := (hN.beside hD).sub (Sub.wz_mono (Z := Z) (Sub.delm s8 b))
    refine hD8.add (t := N) (hh := ⟨X, x, Y, y, hs⟩) o8.cols.ints o8.rows.rows (put_same _ _ _) (by omega) fun G9 Z z H hD9 w9 => ?_
    simp (maxSteps := 300000) (disch := omega) only [gs, gs2, gs3, gs4, ↓reduceIte, Nat.reduceEqDiff, Int.reduceToNat, Nat.reduceMul, Nat.reduceAdd, Nat.reduceBEq, isLd, t0', t3, t7]
    have hl1 : (ts ++ [N]).length = ts.length + 1 := by simp
    exact ⟨m - 1, by omega, G9, Sub.refl _, ts ++ [N], Z, z, H, by rw [hl1], by congr 1; omega, by omega, by rw [hl1]; omega, fun t ht => by
      rcases List.mem_append.1 ht with ht | ht
      · exact hsm t ht
      · simp only [List.mem_singleton] at ht
        subst ht
        exact ⟨by omega, by omega, fun r hr => by have := h3 r hr; omega⟩, hD9.le (by omega)⟩
  · simp (maxSteps := 300000) (disch := omega) only [gs, gs2, gs3, gs4, ↓reduceIte, Nat.reduceEqDiff, Int.reduceToNat, Nat.reduceMul, Nat.reduceAdd, Nat.reduceBEq, isLd, t0', t3, t7, hm0]
    refine spec_pick_ok hD.src.all (by omega) (by omega) fun v G5 v0 v1 _ s5 => ?_
    have hD := hD.step s5
    by_cases c0 : v = 0
    · subst c0
      simp (maxSteps := 300000) (disch := omega) only [gs, gs2, gs3, gs4, ↓reduceIte, Nat.reduceEqDiff, Int.reduceToNat, Nat.reduceMul, Nat.reduceAdd, Nat.reduceBEq, isLd, eq_true (show (0 : Int) = 0 from rfl), t0', t3]
      refine spec_l20DrawOk_ok hD.src.all (by omega) fun G6 N X x Y y hs hN h1 h2 h3 => ?_
      simp (maxSteps := 300000) (disch := omega) only [gs, gs2, gs3, gs4, ↓reduceIte, Nat.reduceEqDiff, Int.reduceToNat, Nat.reduceMul, Nat.reduceAdd, Nat.reduceBEq, isLd, t0', t3]
      refine spec_l20Bend_ok hN h1 h2 h3 (by omega) fun G7 N X x Y y hs hN hNs => ?_
      unfold tabV tabC
      simp (maxSteps := 300000) (disch := omega) only [gs, gs2, gs3, gs4, ↓reduceIte, Nat.reduceEqDiff, Int.reduceToNat, Nat.reduceMul, Nat.reduceAdd, Nat.reduceBEq, isLd, t0', t3, gBs]
      refine ⟨cells_all rfl, fun b8 h8 => ?_⟩
      have s8 := Sub.put h8 ⟨tabC N X x Y y, true⟩
      have hD8 := (hD.step hN.src).up s8
      have o8 := (hN.beside hD).sub (Sub.wz_mono (Z := Z) (Sub.delm s8 b))
      refine hD8.add (t := N) (hh := ⟨X, x, Y, y, hs⟩) o8.cols.ints o8.rows.rows (put_same _ _ _) (by omega) fun G9 Z z H hD9 w9 => ?_
      simp (maxSteps := 300000) (disch := omega) only [gs, gs2, gs3, gs4, ↓reduceIte, Nat.reduceEqDiff, Int.reduceToNat, Nat.reduceMul, Nat.reduceAdd, Nat.reduceBEq, isLd, t0', t3]
      have := hk G9 Z z H _ hD9.src.sub hD9.tabs (dsm_tabs (by simp; omega) fun t ht => by
        rcases List.mem_append.1 ht with ht | ht
        · exact hsm t ht
        · simp only [List.mem_singleton] at ht
          subst ht
          exact hNs)
      rw [show (ts ++ [N]).length = ts.length + 1 by simp] at this
      exact this
    have e0' : (v = 0) = False := eq_false c0
    by_cases c1 : v = 1
    · subst c1
      simp (maxSteps := 300000) (disch := omega) only [gs, gs2, gs3, gs4, ↓reduceIte, Nat.reduceEqDiff, Int.reduceToNat, Nat.reduceMul, Nat.reduceAdd, Nat.reduceBEq, isLd, eq_false (show ¬ (1 : Int) = 0 by decide), eq_true (show (1 : Int) = 1 from rfl), t0', t3, gBs]
      refine ⟨cells_all rfl, fun bl hbl => ?_⟩
      have sl := Sub.put hbl ⟨([6, 7] : List Int).map I64, true⟩
      have hDl := hD.up sl
      have hil := lit_del (G := G5) (b := b) [6, 7] fun e => hD.src.kb' (by rw [← e]; exact hbl)
      refine spec_among_ok (xs := [6, 7]) hDl.src.all (by omega) hil (by decide) (by decide) fun w G6 hw' s6 => ?_
      have hD6 := hDl.step s6
      have hw2 : w = 6 ∨ w = 7 := by simpa using hw'
      simp (maxSteps := 300000) (disch := omega) only [gs, gs2, gs3, gs4, ↓reduceIte, Nat.reduceEqDiff, Int.reduceToNat, Nat.reduceMul, Nat.reduceAdd, Nat.reduceBEq, isLd]
      rcases hw2 with rfl | rfl
      · refine ⟨6, 6, rfl, rfl, Nat.le_refl _, by omega, by omega, fun bz hbz => ?_⟩
        simp (maxSteps := 300000) (disch := omega) only [gs, gs2, gs3, gs4, ↓reduceIte, Nat.reduceEqDiff, Int.reduceToNat, Nat.reduceMul, Nat.reduceAdd, Nat.reduceBEq, isLd]
        exact hk _ _ 6 _ (List.replicate 6 t0) (hD6.src.sub.skip (del_of (src_none hD6.src hbz))) (zeroTabs (put_same _ _ _)) (dsm_tabs (by simp) fun t ht => by
          rw [List.mem_replicate] at ht; rw [ht.2]; exact ⟨by simp [t0], by simp [t0], fun r hr => by simp [t0] at hr⟩)
      · refine ⟨7, 7, rfl, rfl, Nat.le_refl _, by omega, by omega, fun bz hbz => ?_⟩
        simp (maxSteps := 300000) (disch := omega) only [gs, gs2, gs3, gs4, ↓reduceIte, Nat.reduceEqDiff, Int.reduceToNat, Nat.reduceMul, Nat.reduceAdd, Nat.reduceBEq, isLd]
        exact hk _ _ 7 _ (List.replicate 7 t0) (hD6.src.sub.skip (del_of (src_none hD6.src hbz))) (zeroTabs (put_same _ _ _)) (dsm_tabs (by simp) fun t ht => by
          rw [List.mem_replicate] at ht; rw [ht.2]; exact ⟨by simp [t0], by simp [t0], fun r hr => by simp [t0] at hr⟩)
    have e1' : (v = 1) = False := eq_false c1
    simp (maxSteps := 300000) (disch := omega) only [gs, gs2, gs3, gs4, ↓reduceIte, Nat.reduceEqDiff, Int.reduceToNat, Nat.reduceMul, Nat.reduceAdd, Nat.reduceBEq, isLd, e0', e1', t3]
    exact hk G5 Z z H ts hD.src.sub hD.tabs (dsm_tabs (by omega) hsm)
theorem spec_DrawReduceTables_ok {G : GH} {A : Option Addr} {L c : Nat} (h : BytS G A L c) {K : Value → GH → Prop}
    (hk : ∀ G' Z z H ts, Sub G G' → TabsS G' Z z H ts → TabsSm ts → K (.slice Z ts.length z) G') : GC Tryz.prog 50 [.slice A L c] G K := by
  refine c_spec_DrawReduceTables_i (by simp) ?_
  simp (maxSteps := 300000) (disch := omega) only [gs, gs2, gs3, gs4, ↓reduceIte, Nat.reduceEqDiff, Int.reduceToNat, Nat.reduceMul, Nat.reduceAdd, Nat.reduceBEq, isLd]
  refine c_spec_l00From_i (by simp) ?_
  have hbl : bldV [.slice none 0 0, .int .i64 0, .int .u64 0] [(0, 1, .slice A L c)] = some [.slice A L c, .int .i64 0, .int .u64 0] := rfl
  simp (maxSteps := 300000) (disch := omega) only [gs, gs2, gs3, gs4, ↓reduceIte, Nat.reduceEqDiff, Int.reduceToNat, Nat.reduceMul, Nat.reduceAdd, Nat.reduceBEq, isLd, hbl]
  intro b5 hb5
  simp (maxSteps := 300000) (disch := omega) only [gs, gs2, gs3, gs4, ↓reduceIte, Nat.reduceEqDiff, Int.reduceToNat, Nat.reduceMul, Nat.reduceAdd, Nat.reduceBEq, isLd]
  have hS : Src G (put G b5 ⟨[.slice A L c, .int .i64 0, .int .u64 0], true⟩) b5 A L c 0 := ⟨Sub.put hb5 _, hb5, h, 0, 0, Nat.le_refl _, put_same _ _ _⟩
  refine spec_l20DrawList_ok hS.all (by omega) fun G' Z z H ts s h1 h2 => ?_
  simp (maxSteps := 300000) (disch := omega) only [gs, gs2, gs3, gs4, ↓reduceIte, Nat.reduceEqDiff, Int.reduceToNat, Nat.reduceMul, Nat.reduceAdd, Nat.reduceBEq, isLd]
  exact hk G' Z z H ts ((hS.sub.in_del hb5).trans s) h1 h2
theorem b10Long_ok {G : GH} {A : Option Addr} {L c : Nat} {K : Value → GH → Prop} (hk : K (.bool (decide ((1048576 : Int) < L))) G) : GC Tryz.prog 43 [.slice A L c] G K := by
  refine c_laws_b10Long_i (by simp) ?_
  simp (maxSteps := 300000) (disch := omega) only [gs, gs2, gs3, gs4, ↓reduceIte, Nat.reduceEqDiff, Int.reduceToNat, Nat.reduceMul, Nat.reduceAdd, Nat.reduceBEq, isLd]
  exact hk
/-- bytes that came in. -/
def BytesV (G : GH) (v : Value) (L : Nat) : Prop := ∃ A c, v = .slice A L c ∧ BytS G A L c ∧ L ≤ 2 ^ 63 - 1
theorem open_bytes' {H : Type} {enc : TypeId × Value → H} {P : Program} {W : World} {t e : TypeId} (ht : P.underlying t = some (.slice e)) (he : P.underlying e = some (.int .u8)) (hs : P.cellsOf e = 1) {v : Value} {d : DataW H} {ps : List MemPlace} {r : Reach} {base : Nat}
    (hv : Value.okWide P W r base t v) (h : DataW.Trod enc P W 0 (fun _ => true) true t v d ps) : ∃ L, BytesV (G0 W) v L := by
  obtain ⟨A, n, c, rfl⟩ := Go.WideShapes.okWide_slice ht hv
  obtain ⟨fuel, hf⟩ := h
  obtain ⟨hc, hc2, hx⟩ := trod_sl ht hf
  rw [hs] at hx
  refine ⟨n, A, c, rfl, ⟨hc, fun i hi => ?_⟩, by omega⟩
  obtain ⟨cs, f', x', h1, h2, h3⟩ := hx i hi
  obtain ⟨z, rfl, _, hwf⟩ := DataW.trod_int he h3
  simp only [Lit.wf, Bool.and_eq_true, decide_eq_true_eq, IntKind.min, IntKind.max, IntKind.signed, IntKind.bits] at hwf
  have hb : 0 ≤ z ∧ z ≤ 255 := by simpa using hwf
  exact ⟨z, hb.1, hb.2, by simpa using h2 0 _ rfl⟩
theorem tabOk_tsm {t : Tab} (h : TabOk t) : TabSm t := by
  obtain ⟨h1, h2, h3⟩ := h.rowL
  exact ⟨by omega, by omega, fun i hi => by rw [h1 i hi]; omega⟩
theorem tabsOk_tsm {ts : List Tab} (h : TabsOk ts) : TabsSm ts := ⟨by have := h.1; omega, fun i hi => tabOk_tsm (h.2 i hi)⟩
theorem NewTS.all {G G' : GH} {A : Option Addr} {c : Nat} {H : Nat → TH} {ts : List Tab} (h : NewTS G G' A c H ts) : TabsS G' A c H ts := (h.own.sub (Sub.rest _ _)).tabs
theorem DSm.tab {t : Tab} (h : DSm t) : t.cols.length < 2 ^ 40 ∧ Sh t.rows := by
  have := h.sm
  exact ⟨by have := this.1; omega, this.2.1.sh⟩
theorem semi_dsm {a b : Tab} (h : DSm a) (hz : (joinV a b).2 = 0) : DSm (semiV a b).1 := by
  obtain ⟨ha, hb, _⟩ := joinV_zero hz
  rw [semiV_yes ⟨ha, hb⟩]
  refine ⟨h.c, Nat.le_trans (List.length_filter_le _ _) h.r, fun r hr => h.l r ?_⟩
  exact (List.mem_filter.1 hr).1
theorem tabP_f1 {G : GH} {b : Nat} {N : Tab} {A B : Option Addr} {c d : Nat} {hs : Nat → Option Addr × Nat} (h : TabP G (some ⟨b, 0, none⟩) N A c B d hs) : rd G (some ⟨b, 1, none⟩) = some (.slice B N.rows.length d) := by
  have := h.f1; rwa [pa_mk] at this
theorem two_box {G : GH} {b5 b6 : Nat} {z z' e e' : Ent} (h5 : G b5 = none) (h6 : put G b5 z b6 = none) : Sub G (put (put (put (put G b5 z) b6 z') b5 e) b6 e') ∧ put (put (put (put G b5 z) b6 z') b5 e) b6 e' b5 = some e ∧ put (put (put (put G b5 z) b6 z') b5 e) b6 e' b6 = some e' := by
  obtain ⟨n, g6⟩ := put_none.1 h6
  have s := (((Sub.put h5 z).trans (Sub.put h6 z')).skip (b := b5) (e := e) h5).skip (b := b6) (e := e') g6
  exact ⟨s, by rw [put_ne _ _ (Ne.symm n)]; exact put_same _ _ _, put_same _ _ _⟩
theorem tabP_of {G : GH} {b : Nat} {N : Tab} {A B : Option Addr} {c d : Nat} {hs : Nat → Option Addr × Nat} (h : G b = some ⟨tabC N A c B d, true⟩) (hi : IntS G A c N.cols) (hr : RowS G B d hs N.rows) : TabP G (some ⟨b, 0, none⟩) N A c B d hs :=
  ⟨(congrArg (fun e => Option.bind e _) h).trans rfl, by rw [pa_mk]; exact (congrArg (fun e => Option.bind e _) h).trans rfl, hi, hr⟩
theorem tb_rest {G : GH} {A1 : Option Addr} {c1 x1 : Nat} {T : Nat → Value} (t1 : T 1 = .slice A1 x1 c1) (h1 : BytS G A1 x1 c1) :
    gW Tryz.prog (.seq (.reg c_laws_FnTables_11) (.seq (.reg c_laws_FnTables_12) (.seq (.seq (.reg c_laws_FnTables_13) (.cond (tt 97) (.seq (.reg c_laws_FnTables_14) (.ret)) (.skip))) (.seq (.seq (.reg c_laws_FnTables_15) (.cond (tt 110) (.seq (.reg c_laws_FnTables_16) (.ret)) (.skip))) (.seq (.reg c_laws_FnTables_17) (.seq (.reg c_laws_FnTables_18) (.seq (.seq (.reg c_laws_FnTables_19) (.cond (tt 134) (.seq (.reg c_laws_FnTables_20) (.ret)) (.skip))) (.seq (.seq (.reg c_laws_FnTables_21) (.blk 0 (.loop c_laws_FnTables_l0))) (.seq (.reg c_laws_FnTables_27) (.ret)))))))))) (RetK [RV.t 4] fun v _ => v = .bool true) T G := by
  simp (maxSteps := 300000) (disch := omega) only [gs, gs2, gs3, gs4, ↓reduceIte, Nat.reduceEqDiff, Int.reduceToNat, Nat.reduceMul, Nat.reduceAdd, Nat.reduceBEq, isLd, t1]
  refine spec_DrawReduceTables_ok h1 fun G1 Z z H ts s1 hT hTs => ?_
  simp (maxSteps := 300000) (disch := omega) only [gs, gs2, gs3, gs4, ↓reduceIte, Nat.reduceEqDiff, Int.reduceToNat, Nat.reduceMul, Nat.reduceAdd, Nat.reduceBEq, isLd]
  refine impl_ReduceTables_ok hT hTs fun G2 Z' z' H' hN => ?_
  have hT2 := hT.sub hN.sub
  have hN2 := hN.all
  have hcd := @redV_code ts
  have hlaw := @red_law ts
  clear hT hN
  generalize redV ts = V at hN2 hcd hlaw ⊢
  obtain ⟨N, cd⟩ := V
  dsimp only at hN2 hcd hlaw ⊢
  by_cases h0 : cd = 0
  · subst h0
    obtain ⟨q1, q2, q3, q4, q5⟩ := hlaw rfl
    have hs := tabsOk_tsm q2
    have hle := q2.1
    simp (maxSteps := 300000) (disch := omega) only [gs, gs2, gs3, gs4, ↓reduceIte, Nat.reduceEqDiff, Int.reduceToNat, Nat.reduceMul, Nat.reduceAdd, Nat.reduceBEq, isLd, q1]
    rw [← q1]
    refine spec_ValidTables_ok hN2 hs fun z hz => ?_
    obtain rfl : z = true := hz.2 q2
    simp (maxSteps := 300000) (disch := omega) only [gs, gs2, gs3, gs4, ↓reduceIte, Nat.reduceEqDiff, Int.reduceToNat, Nat.reduceMul, Nat.reduceAdd, Nat.reduceBEq, isLd, q1]
    rw [← q1]
    refine impl_FirstDisagreement_ok hN2 hs ?_
    unfold tri3V
    simp (maxSteps := 300000) (disch := omega) only [gs, gs2, gs3, gs4, ↓reduceIte, Nat.reduceEqDiff, Int.reduceToNat, Nat.reduceMul, Nat.reduceAdd, Nat.reduceBEq, isLd]
    refine impl_ReduceTables_ok hN2 hs fun G3 Z3 z3 H3 hN3 => ?_
    rw [q4] at hN3 ⊢
    have hT3 := hT2.sub hN3.sub
    have hA3 := hN2.sub hN3.sub
    have hB3 := hN3.all
    simp (maxSteps := 300000) (disch := omega) only [gs, gs2, gs3, gs4, ↓reduceIte, Nat.reduceEqDiff, Int.reduceToNat, Nat.reduceMul, Nat.reduceAdd, Nat.reduceBEq, isLd, q1, q3]
    rw [← q1]
    have hsm : ∀ i, i < N.length → (N.getD i t0).cols.length < 2 ^ 40 ∧ Sh (N.getD i t0).rows := fun i hi => by
      have := hs.2 i hi
      exact ⟨by have := this.1; omega, this.2.sh⟩
    have gB : ∀ {i}, i < N.length → IntS G3 (H3 i).A (H3 i).c (N.getD i t0).cols ∧ RowS G3 (H3 i).B (H3 i).d (H3 i).hs (N.getD i t0).rows := fun {i} hi => ⟨hB3.cols i hi, hB3.rows i hi⟩
    have gA : ∀ {i}, i < N.length → IntS G3 (H' i).A (H' i).c (N.getD i t0).cols ∧ RowS G3 (H' i).B (H' i).d (H' i).hs (N.getD i t0).rows := fun {i} hi => ⟨hA3.cols i hi, hA3.rows i hi⟩
    have b0 : ∀ i, i < N.length → rd G3 (pa Z3 (i * 2)) = some (.slice (H3 i).A (N.getD i t0).cols.length (H3 i).c) := hB3.r0
    have b1 : ∀ i, i < N.length → rd G3 (pa Z3 (i * 2 + 1)) = some (.slice (H3 i).B (N.getD i t0).rows.length (H3 i).d) := hB3.r1
    have a0 : ∀ i, i < N.length → rd G3 (pa Z' (i * 2)) = some (.slice (H' i).A (N.getD i t0).cols.length (H' i).c) := hA3.r0
    have a1 : ∀ i, i < N.length → rd G3 (pa Z' (i * 2 + 1)) = some (.slice (H' i).B (N.getD i t0).rows.length (H' i).d) := hA3.r1
    have l1 : ∀ i, i < N.length → rd G3 (pa Z (i * 2 + 1)) = some (.slice (H i).B (ts.getD i t0).rows.length (H i).d) := fun i hi => hT3.r1 i (by omega)
    have snB : 0 < N.length → 0 < sn Z3 := hB3.sn
    have snA : 0 < N.length → 0 < sn Z' := hA3.sn
    have snT : 0 < N.length → 0 < sn Z := fun h => hT3.sn (by omega)
    refine gLoop_intro (fun m T G' => ∃ i : Nat, T 15 = .slice Z N.length z ∧ T 16 = .slice Z' N.length z' ∧ T 21 = .slice Z3 N.length z3 ∧ T 23 = .int .i64 i ∧ m + i = N.length ∧ i ≤ N.length ∧ G3 = G') N.length ⟨0, by simp (maxSteps := 300000) (disch := omega) only [gs, gs2, gs3, gs4, ↓reduceIte, Nat.reduceEqDiff, Int.reduceToNat, Nat.reduceMul, Nat.reduceAdd, Nat.reduceBEq, isLd], by simp (maxSteps := 300000) (disch := omega) only [gs, gs2, gs3, gs4, ↓reduceIte, Nat.reduceEqDiff, Int.reduceToNat, Nat.reduceMul, Nat.reduceAdd, Nat.reduceBEq, isLd], by simp (maxSteps := 300000) (disch := omega) only [gs, gs2, gs3, gs4, ↓reduceIte, Nat.reduceEqDiff, Int.reduceToNat, Nat.reduceMul, Nat.reduceAdd, Nat.reduceBEq, isLd], by simp (maxSteps := 300000) (disch := omega) only [gs, gs2, gs3, gs4, ↓reduceIte, Nat.reduceEqDiff, Int.reduceToNat, Nat.reduceMul, Nat.reduceAdd, Nat.reduceBEq, isLd] <;> rfl, by omega, by omega, rfl⟩ ?_
    rintro m T G' ⟨i, e15, e16, e21, e23, hm, hil, rfl⟩
    simp (maxSteps := 300000) (disch := omega) only [gs, gs2, gs3, gs4, ↓reduceIte, Nat.reduceEqDiff, Int.reduceToNat, Nat.reduceMul, Nat.reduceAdd, Nat.reduceBEq, isLd, e15, e16, e21, e23]
    by_cases hi : (i : Int) < N.length
    · have hlen := q5 i (by omega)
      obtain ⟨c1, c2⟩ := hsm i (by omega)
      simp (maxSteps := 300000) (disch := omega) only [gs, gs2, gs3, gs4, ↓reduceIte, Nat.reduceEqDiff, Int.reduceToNat, Nat.reduceMul, Nat.reduceAdd, Nat.reduceBEq, isLd, e15, e16, e21, e23, hi, b0, b1, a0, a1, l1]
      refine spec_SameTable_ok (gB (i := i) (by omega)).1 (gB (i := i) (by omega)).2 (gA (i := i) (by omega)).1 (gA (i := i) (by omega)).2 c1 c2 fun w hw => ?_
      obtain rfl : w = true := hw.2 rfl
      simp (maxSteps := 300000) (disch := omega) only [gs, gs2, gs3, gs4, ↓reduceIte, Nat.reduceEqDiff, Int.reduceToNat, Nat.reduceMul, Nat.reduceAdd, Nat.reduceBEq, isLd, e15, e16, e21, e23, a0, a1, l1, show (((ts.getD i t0).rows.length : Int) < (N.getD i t0).rows.length) = False from eq_false (by omega)]
      exact ⟨m - 1, by omega, _, Sub.refl _, i + 1, rfl, by omega, by omega, rfl⟩
    · simp (maxSteps := 300000) (disch := omega) only [gs, gs2, gs3, gs4, ↓reduceIte, Nat.reduceEqDiff, Int.reduceToNat, Nat.reduceMul, Nat.reduceAdd, Nat.reduceBEq, isLd, e15, e16, e21, e23, hi]
  · have := hcd h0
    subst this
    simp (maxSteps := 300000) (disch := omega) only [gs, gs2, gs3, gs4, ↓reduceIte, Nat.reduceEqDiff, Int.reduceToNat, Nat.reduceMul, Nat.reduceAdd, Nat.reduceBEq, isLd, h0]
    rfl
theorem law_FnTables {G : GH} {v0 v1 : Value} {x0 x1 : Nat} (h0 : BytesV G v0 x0) (h1 : BytesV G v1 x1) : GC Tryz.prog 11 [v0, v1] G fun v _ => v = .bool true := by
  obtain ⟨A0, c0, rfl, h0, l0⟩ := h0
  obtain ⟨A1, c1, rfl, h1, l1⟩ := h1
  refine c_laws_FnTables_i (by simp) ?_
  have hw := @tb_rest
  unfold c_laws_FnTables
  generalize c_laws_FnTables_11 = R11 at hw ⊢
  simp (maxSteps := 300000) (disch := omega) only [gs, gs2, gs3, gs4, ↓reduceIte, Nat.reduceEqDiff, Int.reduceToNat, Nat.reduceMul, Nat.reduceAdd, Nat.reduceBEq, isLd]
  refine b10Long_ok ?_
  by_cases g0 : (1048576 : Int) < x0
  · simp (maxSteps := 300000) (disch := omega) only [gs, gs2, gs3, gs4, ↓reduceIte, Nat.reduceEqDiff, Int.reduceToNat, Nat.reduceMul, Nat.reduceAdd, Nat.reduceBEq, isLd, g0]
  simp (maxSteps := 300000) (disch := omega) only [gs, gs2, gs3, gs4, ↓reduceIte, Nat.reduceEqDiff, Int.reduceToNat, Nat.reduceMul, Nat.reduceAdd, Nat.reduceBEq, isLd, g0]
  refine b10Long_ok ?_
  by_cases g1 : (1048576 : Int) < x1
  · simp (maxSteps := 300000) (disch := omega) only [gs, gs2, gs3, gs4, ↓reduceIte, Nat.reduceEqDiff, Int.reduceToNat, Nat.reduceMul, Nat.reduceAdd, Nat.reduceBEq, isLd, g1]
  simp (maxSteps := 300000) (disch := omega) only [gs, gs2, gs3, gs4, ↓reduceIte, Nat.reduceEqDiff, Int.reduceToNat, Nat.reduceMul, Nat.reduceAdd, Nat.reduceBEq, isLd, g1]
  refine spec_DrawJoinTables_ok h0 fun G1 a X x Y y hs b X' x' Y' y' hs' ha hb s1 ia ra ib rb => ?_
  have hB := h1.sub s1
  clear h0 h1 s1
  unfold tabV tabC
  simp (maxSteps := 300000) (disch := omega) only [gs, gs2, gs3, gs4, ↓reduceIte, Nat.reduceEqDiff, Int.reduceToNat, Nat.reduceMul, Nat.reduceAdd, Nat.reduceBEq, isLd]
  intro b5 hb5
  simp (maxSteps := 300000) (disch := omega) only [gs, gs2, gs3, gs4, ↓reduceIte, Nat.reduceEqDiff, Int.reduceToNat, Nat.reduceMul, Nat.reduceAdd, Nat.reduceBEq, isLd]
  intro b6 hb6
  simp (maxSteps := 300000) (disch := omega) only [gs, gs2, gs3, gs4, ↓reduceIte, Nat.reduceEqDiff, Int.reduceToNat, Nat.reduceMul, Nat.reduceAdd, Nat.reduceBEq, isLd]
  refine st_many (vs := [.slice X a.cols.length x, .slice Y a.rows.length y]) rfl (by rw [put_ne _ _ (Ne.symm (put_none.1 hb6).1)]; exact put_same _ _ _) rfl (by simp) (by intro v hv; simp at hv; rcases hv with rfl | rfl <;> rfl) ?_
  simp only [over, List.set_cons_zero, List.set_cons_succ]
  simp (maxSteps := 300000) (disch := omega) only [gs, gs2, gs3, gs4, ↓reduceIte, Nat.reduceEqDiff, Int.reduceToNat, Nat.reduceMul, Nat.reduceAdd, Nat.reduceBEq, isLd]
  refine st_many (vs := [.slice X' b.cols.length x', .slice Y' b.rows.length y']) rfl (by rw [put_ne _ _ (put_none.1 hb6).1]; exact put_same _ _ _) rfl (by simp) (by intro v hv; simp at hv; rcases hv with rfl | rfl <;> rfl) ?_
  simp only [over, List.set_cons_zero, List.set_cons_succ]
  obtain ⟨s2, k5, k6⟩ := two_box (z' := ⟨[.slice none 0 0, .slice none 0 0], true⟩) (e := ⟨[.slice X a.cols.length x, .slice Y a.rows.length y], true⟩) (e' := ⟨[.slice X' b.cols.length x', .slice Y' b.rows.length y'], true⟩) hb5 hb6
  have pa5 := tabP_of k5 (ia.sub s2) (ra.sub s2)
  have pb6 := tabP_of k6 (ib.sub s2) (rb.sub s2)
  have hB := hB.sub s2
  clear s2 k5 k6 ia ra ib rb
  revert pa5 pb6 hB
  generalize put (put (put (put G1 b5 ⟨[.slice none 0 0, .slice none 0 0], true⟩) b6 ⟨[.slice none 0 0, .slice none 0 0], true⟩) b5 ⟨[.slice X a.cols.length x, .slice Y a.rows.length y], true⟩) b6 ⟨[.slice X' b.cols.length x', .slice Y' b.rows.length y'], true⟩ = G2
  intro pa5 pb6 hB
  simp (maxSteps := 300000) (disch := omega) only [gs, gs2, gs3, gs4, ↓reduceIte, Nat.reduceEqDiff, Int.reduceToNat, Nat.reduceMul, Nat.reduceAdd, Nat.reduceBEq, isLd, pa5.f0, tabP_f1 pa5, pb6.f0, tabP_f1 pb6]
  refine impl_JoinTables_ok pa5.cols pa5.rows pb6.cols pb6.rows ha.tab.1 hb.tab.1 ha.tab.2 hb.tab.2 fun Gn Xn xn Yn yn hn hN => ?_
  unfold tabV tabC
  simp (maxSteps := 300000) (disch := omega) only [gs, gs2, gs3, gs4, ↓reduceIte, Nat.reduceEqDiff, Int.reduceToNat, Nat.reduceMul, Nat.reduceAdd, Nat.reduceBEq, isLd]
  intro b7 hb7
  simp (maxSteps := 300000) (disch := omega) only [gs, gs2, gs3, gs4, ↓reduceIte, Nat.reduceEqDiff, Int.reduceToNat, Nat.reduceMul, Nat.reduceAdd, Nat.reduceBEq, isLd]
  refine st_fresh (vs := [.slice Xn (joinV a b).1.cols.length xn, .slice Yn (joinV a b).1.rows.length yn]) rfl rfl rfl (by intro v hv; simp at hv; rcases hv with rfl | rfl <;> rfl) ?_
  have on := hN.own.sub (Sub.rest _ _)
  have pj7 := TabP.box (N := (joinV a b).1) hb7 on.cols.ints on.rows.rows
  have sn := hN.sub.trans (Sub.put hb7 ⟨tabC (joinV a b).1 Xn xn Yn yn, true⟩)
  have pa5 := pa5.sub sn
  have pb6 := pb6.sub sn
  have hB := hB.sub sn
  clear sn on hN hb7
  unfold tabC at pj7 pa5 pb6 hB
  revert pj7 pa5 pb6 hB
  generalize put Gn b7 ⟨[.slice Xn (joinV a b).1.cols.length xn, .slice Yn (joinV a b).1.rows.length yn], true⟩ = Gm
  intro pj7 pa5 pb6 hB
  simp (maxSteps := 300000) (disch := omega) only [gs, gs2, gs3, gs4, ↓reduceIte, Nat.reduceEqDiff, Int.reduceToNat, Nat.reduceMul, Nat.reduceAdd, Nat.reduceBEq, isLd, pa5.f0, tabP_f1 pa5, pb6.f0, tabP_f1 pb6]
  refine impl_SemiJoin_ok pa5.cols pa5.rows pb6.cols pb6.rows ha.tab.1 hb.tab.1 ha.tab.2 hb.tab.2 fun Gn Xn xn Yn yn hn hN => ?_
  unfold tabV tabC
  simp (maxSteps := 300000) (disch := omega) only [gs, gs2, gs3, gs4, ↓reduceIte, Nat.reduceEqDiff, Int.reduceToNat, Nat.reduceMul, Nat.reduceAdd, Nat.reduceBEq, isLd]
  intro b9 hb9
  simp (maxSteps := 300000) (disch := omega) only [gs, gs2, gs3, gs4, ↓reduceIte, Nat.reduceEqDiff, Int.reduceToNat, Nat.reduceMul, Nat.reduceAdd, Nat.reduceBEq, isLd]
  refine st_fresh (vs := [.slice Xn (semiV a b).1.cols.length xn, .slice Yn (semiV a b).1.rows.length yn]) rfl rfl rfl (by intro v hv; simp at hv; rcases hv with rfl | rfl <;> rfl) ?_
  have on := hN.own.sub (Sub.rest _ _)
  have ps9 := TabP.box (N := (semiV a b).1) hb9 on.cols.ints on.rows.rows
  have sn := hN.sub.trans (Sub.put hb9 ⟨tabC (semiV a b).1 Xn xn Yn yn, true⟩)
  have pa5 := pa5.sub sn
  have pb6 := pb6.sub sn
  have hB := hB.sub sn
  have pj7 := pj7.sub sn
  clear sn on hN hb9
  unfold tabC at ps9 pa5 pb6 hB pj7
  revert ps9 pa5 pb6 hB pj7
  generalize put Gn b9 ⟨[.slice Xn (semiV a b).1.cols.length xn, .slice Yn (semiV a b).1.rows.length yn], true⟩ = Gm
  intro ps9 pa5 pb6 hB pj7
  by_cases hz : (joinV a b).2 = 0
  · obtain ⟨q1, q2, q3, q4, q5, q6⟩ := join_law hz
    have hj := tabOk_tsm q4
    have hjl : (joinV a b).1.cols.length < 2 ^ 40 := by have := hj.1; omega
    simp (maxSteps := 300000) (disch := omega) only [gs, gs2, gs3, gs4, ↓reduceIte, Nat.reduceEqDiff, Int.reduceToNat, Nat.reduceMul, Nat.reduceAdd, Nat.reduceBEq, isLd, hz, pj7.f0, tabP_f1 pj7, pa5.f0]
    refine impl_ProjectTable_ok pj7.cols pj7.rows pa5.cols hjl hj.2.sh (by have := ha.c; omega) fun Gn Xn xn Yn yn hn hN => ?_
    unfold tabV tabC
    simp (maxSteps := 300000) (disch := omega) only [gs, gs2, gs3, gs4, ↓reduceIte, Nat.reduceEqDiff, Int.reduceToNat, Nat.reduceMul, Nat.reduceAdd, Nat.reduceBEq, isLd]
    intro b11 hb11
    simp (maxSteps := 300000) (disch := omega) only [gs, gs2, gs3, gs4, ↓reduceIte, Nat.reduceEqDiff, Int.reduceToNat, Nat.reduceMul, Nat.reduceAdd, Nat.reduceBEq, isLd]
    refine st_fresh (vs := [.slice Xn (projV (joinV a b).1 a.cols).1.cols.length xn, .slice Yn (projV (joinV a b).1 a.cols).1.rows.length yn]) rfl rfl rfl (by intro v hv; simp at hv; rcases hv with rfl | rfl <;> rfl) ?_
    have on := hN.own.sub (Sub.rest _ _)
    have px11 := TabP.box (N := (projV (joinV a b).1 a.cols).1) hb11 on.cols.ints on.rows.rows
    have sn := hN.sub.trans (Sub.put hb11 ⟨tabC (projV (joinV a b).1 a.cols).1 Xn xn Yn yn, true⟩)
    have pa5 := pa5.sub sn
    have pb6 := pb6.sub sn
    have hB := hB.sub sn
    have pj7 := pj7.sub sn
    have ps9 := ps9.sub sn
    clear sn on hN hb11
    unfold tabC at px11 pa5 pb6 hB pj7 ps9
    revert px11 pa5 pb6 hB pj7 ps9
    generalize put Gn b11 ⟨[.slice Xn (projV (joinV a b).1 a.cols).1.cols.length xn, .slice Yn (projV (joinV a b).1 a.cols).1.rows.length yn], true⟩ = Gm
    intro px11 pa5 pb6 hB pj7 ps9
    simp (maxSteps := 300000) (disch := omega) only [gs, gs2, gs3, gs4, ↓reduceIte, Nat.reduceEqDiff, Int.reduceToNat, Nat.reduceMul, Nat.reduceAdd, Nat.reduceBEq, isLd, pb6.f0, tabP_f1 pb6, pa5.f0, tabP_f1 pa5]
    refine impl_JoinTables_ok pb6.cols pb6.rows pa5.cols pa5.rows hb.tab.1 ha.tab.1 hb.tab.2 ha.tab.2 fun Gn Xn xn Yn yn hn hN => ?_
    unfold tabV tabC
    simp (maxSteps := 300000) (disch := omega) only [gs, gs2, gs3, gs4, ↓reduceIte, Nat.reduceEqDiff, Int.reduceToNat, Nat.reduceMul, Nat.reduceAdd, Nat.reduceBEq, isLd]
    intro b13 hb13
    simp (maxSteps := 300000) (disch := omega) only [gs, gs2, gs3, gs4, ↓reduceIte, Nat.reduceEqDiff, Int.reduceToNat, Nat.reduceMul, Nat.reduceAdd, Nat.reduceBEq, isLd]
    refine st_fresh (vs := [.slice Xn (joinV b a).1.cols.length xn, .slice Yn (joinV b a).1.rows.length yn]) rfl rfl rfl (by intro v hv; simp at hv; rcases hv with rfl | rfl <;> rfl) ?_
    have on := hN.own.sub (Sub.rest _ _)
    have py13 := TabP.box (N := (joinV b a).1) hb13 on.cols.ints on.rows.rows
    have sn := hN.sub.trans (Sub.put hb13 ⟨tabC (joinV b a).1 Xn xn Yn yn, true⟩)
    have pa5 := pa5.sub sn
    have pb6 := pb6.sub sn
    have hB := hB.sub sn
    have pj7 := pj7.sub sn
    have ps9 := ps9.sub sn
    have px11 := px11.sub sn
    clear sn on hN hb13
    unfold tabC at py13 pa5 pb6 hB pj7 ps9 px11
    revert py13 pa5 pb6 hB pj7 ps9 px11
    generalize put Gn b13 ⟨[.slice Xn (joinV b a).1.cols.length xn, .slice Yn (joinV b a).1.rows.length yn], true⟩ = Gm
    intro py13 pa5 pb6 hB pj7 ps9 px11
    simp (maxSteps := 300000) (disch := omega) only [gs, gs2, gs3, gs4, ↓reduceIte, Nat.reduceEqDiff, Int.reduceToNat, Nat.reduceMul, Nat.reduceAdd, Nat.reduceBEq, isLd, q1, q2, q3, pj7.f0, tabP_f1 pj7]
    refine spec_ValidTable_ok pj7.cols pj7.rows hjl hj.2.sh fun w hw1 => ?_
    obtain rfl : w = true := hw1.2 q4
    have hsm := semi_dsm ha hz
    have hx : DSm (projV (joinV a b).1 a.cols).1 := by rw [q5]; exact hsm
    have hy : (joinV b a).1.cols.length < 2 ^ 40 ∧ Sh (joinV b a).1.rows := by rw [q6]; exact ⟨hjl, hj.2.sh⟩
    simp (maxSteps := 300000) (disch := omega) only [gs, gs2, gs3, gs4, ↓reduceIte, Nat.reduceEqDiff, Int.reduceToNat, Nat.reduceMul, Nat.reduceAdd, Nat.reduceBEq, isLd, q1, q2, q3, pj7.f0, tabP_f1 pj7, px11.f0, tabP_f1 px11, ps9.f0, tabP_f1 ps9]
    refine spec_SameTable_ok px11.cols px11.rows ps9.cols ps9.rows hx.tab.1 hx.tab.2 fun w hw1 => ?_
    obtain rfl : w = true := hw1.2 q5
    simp (maxSteps := 300000) (disch := omega) only [gs, gs2, gs3, gs4, ↓reduceIte, Nat.reduceEqDiff, Int.reduceToNat, Nat.reduceMul, Nat.reduceAdd, Nat.reduceBEq, isLd, q1, q2, q3, pj7.f0, tabP_f1 pj7, py13.f0, tabP_f1 py13]
    refine spec_SameTable_ok py13.cols py13.rows pj7.cols pj7.rows hy.1 hy.2 fun w hw1 => ?_
    obtain rfl : w = true := hw1.2 q6
    simp (maxSteps := 300000) (disch := omega) only [gs, gs2, gs3, gs4, ↓reduceIte, Nat.reduceEqDiff, Int.reduceToNat, Nat.reduceMul, Nat.reduceAdd, Nat.reduceBEq, isLd]
    exact hw (by simp (maxSteps := 300000) (disch := omega) only [gs, gs2, gs3, gs4, ↓reduceIte, Nat.reduceEqDiff, Int.reduceToNat, Nat.reduceMul, Nat.reduceAdd, Nat.reduceBEq, isLd]) hB
  · simp (maxSteps := 300000) (disch := omega) only [gs, gs2, gs3, gs4, ↓reduceIte, Nat.reduceEqDiff, Int.reduceToNat, Nat.reduceMul, Nat.reduceAdd, Nat.reduceBEq, isLd, hz]
    exact hw (by simp (maxSteps := 300000) (disch := omega) only [gs, gs2, gs3, gs4, ↓reduceIte, Nat.reduceEqDiff, Int.reduceToNat, Nat.reduceMul, Nat.reduceAdd, Nat.reduceBEq, isLd]) hB

end Go.Proofs.YtanpmilodaejpaaGreat.Gh
