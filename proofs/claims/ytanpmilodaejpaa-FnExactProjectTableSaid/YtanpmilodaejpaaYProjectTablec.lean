/- What the functions that the law ProjectTable reaches return, and the law; it stands under no condition. -/
import Derived.Test.YtanpmilodaejpaaYProjectTableb
import Derived.Shelf.SlSortCmp.NoneTotal
import Derived.Lib.QuietBelow
namespace Go.Proofs.Ytanpmilodaejpaa.Gh
open Go Go.RowKit Go.Proofs
set_option linter.unusedVariables false
set_option linter.unusedSimpArgs false
set_option maxHeartbeats 4000000

theorem spec_l20Put_ok {G : GH} {Z D : Option Addr} {z e : Nat} {hs : Nat → Option Addr × Nat} {xss : List (List Int)} {x : List Int} (h : OwnR G Z z hs xss) (ha : Asc xss) (hx : IntS G D e x) (hl : xss.length < 2 ^ 20) (hl2 : ∀ i, i < xss.length → (xss.getD i []).length < 2 ^ 30) (hxl : x.length < 2 ^ 30) {K : Value → GH → Prop}
    (hk : ∀ G' Z' z' hs', Sub G G' → OwnR G' Z' z' hs' (ins x xss) → Off G Z' → (∀ p, p < (ins x xss).length → (∃ i, i < xss.length ∧ hs' p = hs i) ∨ Off G (hs' p).1) → K (.slice Z' (ins x xss).length z') G') : GC Try.prog 60 [.slice Z xss.length z, .slice D x.length e] G K := by
  refine c_spec_l20Put_i (by simp) ?_
  have hR := h.rows
  simp (maxSteps := 300000) (disch := omega) only [gs, gs2, gs3, gs4, ↓reduceIte, Nat.reduceEqDiff, Int.reduceToNat, Nat.reduceMul, Nat.reduceAdd, Nat.reduceBEq, isLd, gBs]
  refine ⟨fun v hv => (by cases hv), fun bz hbz => ?_⟩
  refine gLoop_intro (fun m T G' => ∃ (k : Nat) (Zo : Option Addr) (zo : Nat) (E : List (Value × List Int)) (dn : Bool), T 0 = .slice Z xss.length z ∧ T 1 = .slice D x.length e ∧ T 5 = .slice Zo E.length zo ∧ T 6 = .bool dn ∧ T 7 = .int .i64 k ∧ m + k = xss.length ∧ k ≤ xss.length ∧ E.length ≤ k + 1 ∧ PutI G G' Zo zo hs xss x E ∧
      (dn = false → E.map (·.2) = xss.take k ∧ ins x xss = xss.take k ++ ins x (xss.drop k)) ∧ (dn = true → E.map (·.2) ++ xss.drop k = ins x xss)) xss.length
    ⟨0, some ⟨bz, 0, none⟩, 0, [], false, by simp (maxSteps := 300000) (disch := omega) only [gs, gs2, gs3, gs4, ↓reduceIte, Nat.reduceEqDiff, Int.reduceToNat, Nat.reduceMul, Nat.reduceAdd, Nat.reduceBEq, isLd], by simp (maxSteps := 300000) (disch := omega) only [gs, gs2, gs3, gs4, ↓reduceIte, Nat.reduceEqDiff, Int.reduceToNat, Nat.reduceMul, Nat.reduceAdd, Nat.reduceBEq, isLd], by simp (maxSteps := 300000) (disch := omega) only [gs, gs2, gs3, gs4, ↓reduceIte, Nat.reduceEqDiff, Int.reduceToNat, Nat.reduceMul, Nat.reduceAdd, Nat.reduceBEq, isLd] <;> rfl, by simp (maxSteps := 300000) (disch := omega) only [gs, gs2, gs3, gs4, ↓reduceIte, Nat.reduceEqDiff, Int.reduceToNat, Nat.reduceMul, Nat.reduceAdd, Nat.reduceBEq, isLd], by simp (maxSteps := 300000) (disch := omega) only [gs, gs2, gs3, gs4, ↓reduceIte, Nat.reduceEqDiff, Int.reduceToNat, Nat.reduceMul, Nat.reduceAdd, Nat.reduceBEq, isLd] <;> rfl, by omega, by omega, by simp, ⟨Sub.put hbz _, fun a ha => by cases ha; exact hbz, Own.blk (put_same _ _ _) rfl, fun e he => by cases he⟩, fun _ => by simp, fun y => by cases y⟩ ?_
  rintro m T G' ⟨k, Zo, zo, E, dn, t0, t1, t5, t6, t7, hm, hkl, hEl, hP, hF, hT⟩
  simp (maxSteps := 300000) (disch := omega) only [gs, gs2, gs3, gs4, ↓reduceIte, Nat.reduceEqDiff, Int.reduceToNat, Nat.reduceMul, Nat.reduceAdd, Nat.reduceBEq, isLd, t0, t1, t5, t6, t7]
  have hsn := hR.sn
  by_cases hkk : (k : Int) < xss.length
  · have rk : ∀ {G' : GH}, Sub G G' → rd G' (pa Z k) = some (.slice (hs k).1 (xss.getD k []).length (hs k).2) := fun s => rd_sub s (hR.r k (by omega))
    have hsk := hsn (by omega)
    have hd := dropL (show k < xss.length by omega)
    have ht := takeL (show k < xss.length by omega)
    simp (maxSteps := 300000) (disch := omega) only [gs, gs2, gs3, gs4, ↓reduceIte, Nat.reduceEqDiff, Int.reduceToNat, Nat.reduceMul, Nat.reduceAdd, Nat.reduceBEq, isLd, t0, t1, t5, t6, t7, hkk, rk hP.sub]
    refine spec_l00Same_ok ((hR.row k (by omega)).sub hP.sub) (hx.sub hP.sub) (by have := hl2 k (by omega); omega) ?_
    by_cases hq : xss.getD k [] = x
    · have hqT : (xss.getD k [] = x) = True := eq_true hq
      simp (maxSteps := 300000) (disch := omega) only [gs, gs2, gs3, gs4, ↓reduceIte, Nat.reduceEqDiff, Int.reduceToNat, Nat.reduceMul, Nat.reduceAdd, Nat.reduceBEq, isLd, t0, t1, t5, t6, t7, hkk, rk hP.sub, hqT, gBs]
      refine ⟨fun v hv => (by simp at hv; subst hv; rfl), fun bs hbs => ?_⟩
      refine PutI.push (e := old hs xss k) (hP.up (Sub.put hbs _)) (.inl ⟨k, by omega, rfl⟩) (put_same _ _ _) (by omega) fun G4 Z4 z4 hP4 => ?_
      simp (maxSteps := 300000) (disch := omega) only [gs, gs2, gs3, gs4, ↓reduceIte, Nat.reduceEqDiff, Int.reduceToNat, Nat.reduceMul, Nat.reduceAdd, Nat.reduceBEq, isLd, t0, t1, t5, t6, t7]
      refine ⟨m - 1, by omega, G4, Sub.refl _, k + 1, Z4, z4, E ++ [old hs xss k], true, by simp, rfl, rfl, by omega, by omega, by simp; omega, hP4, fun y => (by cases y), fun _ => ?_⟩
      rw [List.map_append]
      show E.map (·.2) ++ [xss.getD k []] ++ _ = _
      rw [List.append_assoc, List.singleton_append, ← hd]
      cases dn
      · obtain ⟨hF1, hF2⟩ := hF rfl
        rw [hF1, hF2, hd, hq, ins, if_pos (lexC_self x)]
      · exact hT rfl
    · have hqF : (xss.getD k [] = x) = False := eq_false hq
      cases dn
      · obtain ⟨hF1, hF2⟩ := hF rfl
        simp (maxSteps := 300000) (disch := omega) only [gs, gs2, gs3, gs4, ↓reduceIte, Nat.reduceEqDiff, Int.reduceToNat, Nat.reduceMul, Nat.reduceAdd, Nat.reduceBEq, isLd, t0, t1, t5, t6, t7, hkk, rk hP.sub, hqF, gBs]
        refine spec_l16Before_ok (hx.sub hP.sub) ((hR.row k (by omega)).sub hP.sub) (by omega) (by have := hl2 k (by omega); omega) fun w hw => ?_
        cases w
        · simp (maxSteps := 300000) (disch := omega) only [gs, gs2, gs3, gs4, ↓reduceIte, Nat.reduceEqDiff, Int.reduceToNat, Nat.reduceMul, Nat.reduceAdd, Nat.reduceBEq, isLd, t0, t1, t5, t6, t7, hkk, rk hP.sub, gBs]
          refine ⟨fun v hv => (by simp at hv; subst hv; rfl), fun bs hbs => ?_⟩
          refine PutI.push (e := old hs xss k) (hP.up (Sub.put hbs _)) (.inl ⟨k, by omega, rfl⟩) (put_same _ _ _) (by omega) fun G4 Z4 z4 hP4 => ?_
          simp (maxSteps := 300000) (disch := omega) only [gs, gs2, gs3, gs4, ↓reduceIte, Nat.reduceEqDiff, Int.reduceToNat, Nat.reduceMul, Nat.reduceAdd, Nat.reduceBEq, isLd, t0, t1, t5, t6, t7]
          refine ⟨m - 1, by omega, G4, Sub.refl _, k + 1, Z4, z4, E ++ [old hs xss k], false, by simp, rfl, rfl, by omega, by omega, by simp; omega, hP4, fun _ => ⟨?_, ?_⟩, fun y => (by cases y)⟩
          · rw [List.map_append, hF1, ht]; rfl
          · have hn : ¬ lexC x (xss.getD k []) < 0 := fun y => by have := hw.2 y; cases this
            have hz : ¬ lexC x (xss.getD k []) = 0 := fun y => hq (lexC_zero.1 y).symm
            rw [hF2, hd, ins, if_neg hz, if_neg hn, ht, List.append_assoc]; rfl
        · have hlt := hw.1 rfl
          simp (maxSteps := 300000) (disch := omega) only [gs, gs2, gs3, gs4, ↓reduceIte, Nat.reduceEqDiff, Int.reduceToNat, Nat.reduceMul, Nat.reduceAdd, Nat.reduceBEq, isLd, t0, t1, t5, t6, t7, hkk, rk hP.sub]
          refine spec_l00Own_ok (hx.sub hP.sub) hxl fun G5 D5 d5 hN => ?_
          have hDo : ∀ x, D5 = some x → G' x.block = none := hN.off
          simp (maxSteps := 300000) (disch := omega) only [gs, gs2, gs3, gs4, ↓reduceIte, Nat.reduceEqDiff, Int.reduceToNat, Nat.reduceMul, Nat.reduceAdd, Nat.reduceBEq, isLd, t0, t1, t5, t6, t7, gBs]
          refine ⟨fun v hv => (by simp at hv; subst hv; rfl), fun bs hbs => ?_⟩
          have s9 := Sub.put hbs ⟨[.slice D5 x.length d5], true⟩
          refine PutI.push (e := (.slice D5 x.length d5, x)) (hP.up (hN.sub.trans s9)) (.inr ⟨D5, d5, rfl, hN.off.mono hP.sub, hN.fresh.sub s9, fun a b ha hb q => ?_⟩) (put_same _ _ _) (by omega) fun G4 Z4 z4 hP4 => ?_
          · have := own_ne hP.own b hb
            rw [← q, hDo a ha] at this; exact this rfl
          simp (maxSteps := 300000) (disch := omega) only [gs, gs2, gs3, gs4, ↓reduceIte, Nat.reduceEqDiff, Int.reduceToNat, Nat.reduceMul, Nat.reduceAdd, Nat.reduceBEq, isLd, t0, t1, t5, t6, t7, rk hP4.sub, gBs]
          refine ⟨fun v hv => (by simp at hv; subst hv; rfl), fun bs hbs => ?_⟩
          rw [show E.length + 1 = (E ++ [(Value.slice D5 x.length d5, x)]).length by simp]
          refine PutI.push (e := old hs xss k) (hP4.up (Sub.put hbs _)) (.inl ⟨k, by omega, rfl⟩) (put_same _ _ _) (by simp; omega) fun G6 Z6 z6 hP6 => ?_
          simp (maxSteps := 300000) (disch := omega) only [gs, gs2, gs3, gs4, ↓reduceIte, Nat.reduceEqDiff, Int.reduceToNat, Nat.reduceMul, Nat.reduceAdd, Nat.reduceBEq, isLd, t0, t1, t5, t6, t7]
          refine ⟨m - 1, by omega, G6, Sub.refl _, k + 1, Z6, z6, (E ++ [(Value.slice D5 x.length d5, x)]) ++ [old hs xss k], true, by simp, rfl, rfl, by omega, by omega, ?_, hP6, fun y => (by cases y), fun _ => ?_⟩
          · have : E.length = k := by rw [← List.length_map (f := (·.2)), hF1, List.length_take]; omega
            simp; omega
          · have hz : ¬ lexC x (xss.getD k []) = 0 := fun y => hq (lexC_zero.1 y).symm
            rw [List.map_append, List.map_append, hF1, hF2, hd, ins, if_neg hz, if_pos hlt]
            simp [old]
      · simp (maxSteps := 300000) (disch := omega) only [gs, gs2, gs3, gs4, ↓reduceIte, Nat.reduceEqDiff, Int.reduceToNat, Nat.reduceMul, Nat.reduceAdd, Nat.reduceBEq, isLd, t0, t1, t5, t6, t7, hkk, rk hP.sub, hqF, gBs]
        refine ⟨fun v hv => (by simp at hv; subst hv; rfl), fun bs hbs => ?_⟩
        refine PutI.push (e := old hs xss k) (hP.up (Sub.put hbs _)) (.inl ⟨k, by omega, rfl⟩) (put_same _ _ _) (by omega) fun G4 Z4 z4 hP4 => ?_
        simp (maxSteps := 300000) (disch := omega) only [gs, gs2, gs3, gs4, ↓reduceIte, Nat.reduceEqDiff, Int.reduceToNat, Nat.reduceMul, Nat.reduceAdd, Nat.reduceBEq, isLd, t0, t1, t5, t6, t7]
        refine ⟨m - 1, by omega, G4, Sub.refl _, k + 1, Z4, z4, E ++ [old hs xss k], true, by simp, rfl, rfl, by omega, by omega, by simp; omega, hP4, fun y => (by cases y), fun _ => ?_⟩
        rw [List.map_append]
        show E.map (·.2) ++ [xss.getD k []] ++ _ = _
        rw [List.append_assoc, List.singleton_append, ← hd]
        exact hT rfl
  · obtain rfl : k = xss.length := by omega
    rw [List.take_length, List.drop_length] at hF
    rw [List.drop_length, List.append_nil] at hT
    cases dn
    · obtain ⟨hF1, hF2⟩ := hF rfl
      simp (maxSteps := 300000) (disch := omega) only [gs, gs2, gs3, gs4, ↓reduceIte, Nat.reduceEqDiff, Int.reduceToNat, Nat.reduceMul, Nat.reduceAdd, Nat.reduceBEq, isLd, t0, t1, t5, t6, t7, hkk]
      refine spec_l00Own_ok (hx.sub hP.sub) hxl fun G5 D5 d5 hN => ?_
      have hDo : ∀ x, D5 = some x → G' x.block = none := hN.off
      simp (maxSteps := 300000) (disch := omega) only [gs, gs2, gs3, gs4, ↓reduceIte, Nat.reduceEqDiff, Int.reduceToNat, Nat.reduceMul, Nat.reduceAdd, Nat.reduceBEq, isLd, t0, t1, t5, t6, t7, gBs]
      refine ⟨fun v hv => (by simp at hv; subst hv; rfl), fun bs hbs => ?_⟩
      have s9 := Sub.put hbs ⟨[.slice D5 x.length d5], true⟩
      refine PutI.push (e := (.slice D5 x.length d5, x)) (hP.up (hN.sub.trans s9)) (.inr ⟨D5, d5, rfl, hN.off.mono hP.sub, hN.fresh.sub s9, fun a b ha hb q => ?_⟩) (put_same _ _ _) (by omega) fun G4 Z4 z4 hP4 => ?_
      · have := own_ne hP.own b hb
        rw [← q, hDo a ha] at this; exact this rfl
      simp (maxSteps := 300000) (disch := omega) only [gs, gs2, gs3, gs4, ↓reduceIte, Nat.reduceEqDiff, Int.reduceToNat, Nat.reduceMul, Nat.reduceAdd, Nat.reduceBEq, isLd, t0, t1, t5, t6, t7]
      have hE : (E ++ [(Value.slice D5 x.length d5, x)]).map (·.2) = ins x xss := by
        rw [List.map_append, hF1, hF2]; rfl
      obtain ⟨hs', ho', hh⟩ := hP4.fin h (by rw [hE]; exact asc_ins ha)
      have hlen : (E ++ [(Value.slice D5 x.length d5, x)]).length = (ins x xss).length := by rw [← hE, List.length_map]
      rw [hE] at ho'
      rw [show E.length + 1 = (ins x xss).length by rw [← hlen]; simp]
      exact hk G4 Z4 z4 hs' hP4.sub ho' hP4.off fun p hp => hh p (by omega)
    · have hT := hT rfl
      simp (maxSteps := 300000) (disch := omega) only [gs, gs2, gs3, gs4, ↓reduceIte, Nat.reduceEqDiff, Int.reduceToNat, Nat.reduceMul, Nat.reduceAdd, Nat.reduceBEq, isLd, t0, t1, t5, t6, t7, hkk]
      obtain ⟨hs', ho', hh⟩ := hP.fin h (by rw [hT]; exact asc_ins ha)
      have hlen : E.length = (ins x xss).length := by rw [← hT, List.length_map]
      rw [hT] at ho'
      rw [hlen]
      exact hk G' Zo zo hs' hP.sub ho' hP.off fun p hp => hh p (by omega)
theorem getD_memL {α : Type} {l : List α} {i : Nat} {d : α} (h : i < l.length) : l.getD i d ∈ l := by simp [List.getD, h]
theorem SemG.repl {H G G' : GH} {b5 n c1 z z' : Nat} {A1 Z Z' : Option Addr} {hs hs' : Nat → Option Addr × Nat} {xss yss : List (List Int)} (h : SemG H G b5 A1 n c1 Z z hs xss) (s : Sub G G') (ho : OwnR G' Z' z' hs' yss) (oZ : Off G Z')
    (oR : ∀ i, i < yss.length → (∃ j, j < xss.length ∧ hs' i = hs j) ∨ Off G (hs' i).1) {K : Value → GH → Prop} (hK : ∀ G5, SemG H G5 b5 A1 n c1 Z' z' hs' yss → K undef G5) : gSt 1 (.pointer (some ⟨b5, 1, none⟩)) (.slice Z' yss.length z') G' K := by
  have s5 := h.sub.trans s
  have hbox : G' b5 = some ⟨[.slice A1 n c1, .slice Z xss.length z], true⟩ := s5 _ _ (put_same _ _ _)
  have oZ' : Off (put H b5 ⟨[], true⟩) Z' := (oZ.mono h.sub).pute
  have oR' : ∀ i, i < yss.length → Off (put H b5 ⟨[], true⟩) (hs' i).1 := fun i hi => by
    rcases oR i hi with ⟨j, hj', e⟩ | o
    · rw [e]; exact h.oR j hj'
    · exact (o.mono h.sub).pute
  refine st_one hbox (by simp) rfl (hK _ ⟨h.nb, fun y f hy => ?_, ho.oth (Oth.put _ _ _) (oZ'.ne) fun i hi a ha => (oR' i hi).ne a ha, oZ', oR'⟩)
  by_cases c : y = b5
  · subst c
    rw [put_same] at hy ⊢
    rw [← hy]; rfl
  · rw [put_ne _ _ c] at hy ⊢
    exact s5 _ _ (by rw [put_ne _ _ c]; exact hy)
theorem spec_l20Project_ok {G : GH} {q : Option Addr} {t : Tab} {A B W : Option Addr} {c d w : Nat} {hs : Nat → Option Addr × Nat} {wanted : List Int} (p2 : TabP G q t A c B d hs) (hw : IntS G W w wanted) (hmem : ∀ v ∈ wanted, v ∈ t.cols) (hl : t.cols.length < 2 ^ 30) (hl2 : wanted.length < 2 ^ 30) (rt : RowL t) (nt : t.rows.length < 2 ^ 18)
    {K : Value → GH → Prop} (hk : ∀ G' X x Y y hs'', NewT G G' (projT t wanted) X x Y y hs'' → K (tabV (projT t wanted) X x Y y) G') : GC Try.prog 32 [.pointer q, .slice W wanted.length w] G K := by
  refine GC_drop (c_spec_l20Project_i (by simp) ?_)
  have hq := rd_some p2.f0
  simp (maxSteps := 300000) (disch := omega) only [gs, gs2, gs3, gs4, ↓reduceIte, Nat.reduceEqDiff, Int.reduceToNat, Nat.reduceMul, Nat.reduceAdd, Nat.reduceBEq, isLd]
  intro b4 hb4
  have s4 := Sub.put hb4 ⟨[.slice none 0 0, .slice none 0 0], true⟩
  have g4 := put_same G b4 ⟨[.slice none 0 0, .slice none 0 0], true⟩
  have p2 := p2.sub s4
  have hw := hw.sub s4
  revert s4 p2 hw g4
  generalize put G b4 ⟨[.slice none 0 0, .slice none 0 0], true⟩ = G2
  intro s4 g4 p2 hw
  simp (maxSteps := 300000) (disch := omega) only [gs, gs2, gs3, gs4, ↓reduceIte, Nat.reduceEqDiff, Int.reduceToNat, Nat.reduceMul, Nat.reduceAdd, Nat.reduceBEq, isLd, p2.f0]
  refine spec_l00Own_ok hw (by omega) fun H A1 c1 hN1 => ?_
  have p2 := p2.sub hN1.sub
  have hw := hw.sub hN1.sub
  have g4' := hN1.sub _ _ g4
  simp (maxSteps := 300000) (disch := omega) only [gs, gs2, gs3, gs4, ↓reduceIte, Nat.reduceEqDiff, Int.reduceToNat, Nat.reduceMul, Nat.reduceAdd, Nat.reduceBEq, isLd, p2.f0, gBs]
  refine ⟨fun v hv => (by cases hv), fun bz hbz => ?_⟩
  have hbl : bldV [Value.slice none 0 0, Value.slice none 0 0] [(0, 1, Value.slice A1 wanted.length c1), (1, 1, Value.slice (some ⟨bz, 0, none⟩) 0 0)] = some [Value.slice A1 wanted.length c1, .slice (some ⟨bz, 0, none⟩) 0 0] := rfl
  simp (maxSteps := 300000) (disch := omega) only [gs, gs2, gs3, gs4, ↓reduceIte, Nat.reduceEqDiff, Int.reduceToNat, Nat.reduceMul, Nat.reduceAdd, Nat.reduceBEq, isLd, hbl]
  intro b5 hb5
  simp (maxSteps := 300000) (disch := omega) only [gs, gs2, gs3, gs4, ↓reduceIte, Nat.reduceEqDiff, Int.reduceToNat, Nat.reduceMul, Nat.reduceAdd, Nat.reduceBEq, isLd]
  refine st_fresh (vs := [.slice A1 wanted.length c1, .slice (some ⟨bz, 0, none⟩) 0 0]) rfl rfl rfl (by intro v hv; simp at hv; rcases hv with rfl | rfl <;> rfl) ?_
  have n5z : b5 ≠ bz := (put_none.1 hb5).1
  have hb5' : H b5 = none := (put_none.1 hb5).2
  have hX0 : SemG H (put (put H bz ⟨[], true⟩) b5 ⟨[.slice A1 wanted.length c1, .slice (some ⟨bz, 0, none⟩) 0 0], true⟩) b5 A1 wanted.length c1 (some ⟨bz, 0, none⟩) 0 (fun _ => (none, 0)) [] := by
    refine ⟨hb5', fun x e hx => ?_, ⟨.inr ⟨bz, [], rfl, by rw [put_ne _ _ n5z.symm]; exact put_same _ _ _, rfl, rfl, Nat.le_refl _⟩, fun i hi => by simp at hi, fun i hi => by simp at hi, fun i j hi => by simp at hi⟩, fun a ha => by cases ha; rw [put_ne _ _ n5z.symm]; exact hbz, fun i hi => by simp at hi⟩
    by_cases c : x = b5
    · subst c; rw [put_same] at hx ⊢; exact hx
    · rw [put_ne _ _ c] at hx ⊢
      rw [put_ne _ _ (fun y => by subst y; rw [hbz] at hx; cases hx)]; exact hx
  have hA1 : Own H A1 c1 (wanted.map I64) 1 wanted.length := hN1.fresh
  have sH := s4.trans hN1.sub
  have oA1 : Off G A1 := hN1.off.mono s4
  have n41 : ∀ x, A1 = some x → x.block ≠ b4 := fun x hx y => by have := hN1.off x hx; rw [y, g4] at this; cases this
  clear hN1 g4
  have e0 : (put (put H bz ⟨List.flatMap (fun v : Value => v.cells.toList) [], true⟩) b5 ⟨[.slice A1 wanted.length c1, .slice (some ⟨bz, 0, none⟩) 0 0], true⟩) = (put (put H bz ⟨[], true⟩) b5 ⟨[.slice A1 wanted.length c1, .slice (some ⟨bz, 0, none⟩) 0 0], true⟩) := rfl
  try rw [e0]
  generalize put (put H bz ⟨[], true⟩) b5 ⟨[.slice A1 wanted.length c1, .slice (some ⟨bz, 0, none⟩) 0 0], true⟩ = G3 at hX0 ⊢
  simp (maxSteps := 300000) (disch := omega) only [gs, gs2, gs3, gs4, ↓reduceIte, Nat.reduceEqDiff, Int.reduceToNat, Nat.reduceMul, Nat.reduceAdd, Nat.reduceBEq, isLd]
  refine gLoop_intro (fun m T G' => ∃ (k : Nat) (Z : Option Addr) (z : Nat) (hz : Nat → Option Addr × Nat), T 0 = .pointer q ∧ T 1 = .slice W wanted.length w ∧ T 4 = .pointer (some ⟨b4, 0, none⟩) ∧ T 5 = .pointer (some ⟨b5, 0, none⟩) ∧ T 6 = .int .i64 k ∧ m + k = t.rows.length ∧ k ≤ t.rows.length ∧
      SemG H G' b5 A1 wanted.length c1 Z z hz (srt ((t.rows.take k).map (prj t.cols wanted)))) t.rows.length
    ⟨0, _, 0, _, by simp (maxSteps := 300000) (disch := omega) only [gs, gs2, gs3, gs4, ↓reduceIte, Nat.reduceEqDiff, Int.reduceToNat, Nat.reduceMul, Nat.reduceAdd, Nat.reduceBEq, isLd], by simp (maxSteps := 300000) (disch := omega) only [gs, gs2, gs3, gs4, ↓reduceIte, Nat.reduceEqDiff, Int.reduceToNat, Nat.reduceMul, Nat.reduceAdd, Nat.reduceBEq, isLd], by simp (maxSteps := 300000) (disch := omega) only [gs, gs2, gs3, gs4, ↓reduceIte, Nat.reduceEqDiff, Int.reduceToNat, Nat.reduceMul, Nat.reduceAdd, Nat.reduceBEq, isLd], by simp (maxSteps := 300000) (disch := omega) only [gs, gs2, gs3, gs4, ↓reduceIte, Nat.reduceEqDiff, Int.reduceToNat, Nat.reduceMul, Nat.reduceAdd, Nat.reduceBEq, isLd], by simp (maxSteps := 300000) (disch := omega) only [gs, gs2, gs3, gs4, ↓reduceIte, Nat.reduceEqDiff, Int.reduceToNat, Nat.reduceMul, Nat.reduceAdd, Nat.reduceBEq, isLd] <;> rfl, by omega, by omega, hX0⟩ ?_
  clear hX0
  rintro m T G' ⟨k, Z, z, hz, e0, e1, e4, e5, e6, hm, hkl, hX⟩
  have q2 := p2.sub hX.low
  have hw3 := hw.sub hX.low
  simp (maxSteps := 300000) (disch := omega) only [gs, gs2, gs3, gs4, ↓reduceIte, Nat.reduceEqDiff, Int.reduceToNat, Nat.reduceMul, Nat.reduceAdd, Nat.reduceBEq, isLd, e0, e1, e4, e5, e6, q2.f1]
  have hlen : (srt ((t.rows.take k).map (prj t.cols wanted))).length ≤ k := Nat.le_trans (srt_len _) (by rw [List.length_map, List.length_take]; omega)
  by_cases hkk : (k : Int) < t.rows.length
  · have rk := q2.rows.r k (by omega)
    have hsB := q2.rows.sn (by omega)
    have hxl := rt k (by omega)
    have htk : srt ((t.rows.take (k + 1)).map (prj t.cols wanted)) = ins (prj t.cols wanted (t.rows.getD k [])) (srt ((t.rows.take k).map (prj t.cols wanted))) := by
      rw [map_take (d := []) (by omega), srt_snoc]
    simp (maxSteps := 300000) (disch := omega) only [gs, gs2, gs3, gs4, ↓reduceIte, Nat.reduceEqDiff, Int.reduceToNat, Nat.reduceMul, Nat.reduceAdd, Nat.reduceBEq, isLd, e0, e1, e4, e5, e6, q2.f1, hkk, gBs]
    refine ⟨fun v hv => (by cases hv), fun by' hby => ?_⟩
    refine gLoop_intro (fun m' T' G'' => ∃ (j : Nat) (Zr : Option Addr) (zr : Nat), T' 0 = .pointer q ∧ T' 1 = .slice W wanted.length w ∧ T' 4 = .pointer (some ⟨b4, 0, none⟩) ∧ T' 5 = .pointer (some ⟨b5, 0, none⟩) ∧ T' 6 = .int .i64 k ∧ T' 7 = .slice Zr j zr ∧ T' 8 = .int .i64 j ∧ m' + j = wanted.length ∧ j ≤ wanted.length ∧ Sub G' G'' ∧ Off G' Zr ∧ Own G'' Zr zr (((wanted.take j).map (cellAt t.cols (t.rows.getD k []))).map I64) 1 j) wanted.length
      ⟨0, some ⟨by', 0, none⟩, 0, by simp (maxSteps := 300000) (disch := omega) only [gs, gs2, gs3, gs4, ↓reduceIte, Nat.reduceEqDiff, Int.reduceToNat, Nat.reduceMul, Nat.reduceAdd, Nat.reduceBEq, isLd, e0], by simp (maxSteps := 300000) (disch := omega) only [gs, gs2, gs3, gs4, ↓reduceIte, Nat.reduceEqDiff, Int.reduceToNat, Nat.reduceMul, Nat.reduceAdd, Nat.reduceBEq, isLd, e1], by simp (maxSteps := 300000) (disch := omega) only [gs, gs2, gs3, gs4, ↓reduceIte, Nat.reduceEqDiff, Int.reduceToNat, Nat.reduceMul, Nat.reduceAdd, Nat.reduceBEq, isLd, e4], by simp (maxSteps := 300000) (disch := omega) only [gs, gs2, gs3, gs4, ↓reduceIte, Nat.reduceEqDiff, Int.reduceToNat, Nat.reduceMul, Nat.reduceAdd, Nat.reduceBEq, isLd, e5], by simp (maxSteps := 300000) (disch := omega) only [gs, gs2, gs3, gs4, ↓reduceIte, Nat.reduceEqDiff, Int.reduceToNat, Nat.reduceMul, Nat.reduceAdd, Nat.reduceBEq, isLd, e6], by simp (maxSteps := 300000) (disch := omega) only [gs, gs2, gs3, gs4, ↓reduceIte, Nat.reduceEqDiff, Int.reduceToNat, Nat.reduceMul, Nat.reduceAdd, Nat.reduceBEq, isLd] <;> rfl, by simp (maxSteps := 300000) (disch := omega) only [gs, gs2, gs3, gs4, ↓reduceIte, Nat.reduceEqDiff, Int.reduceToNat, Nat.reduceMul, Nat.reduceAdd, Nat.reduceBEq, isLd] <;> rfl, by omega, by omega, Sub.put hby _, fun a ha => (by cases ha; exact hby), Own.blk (put_same _ _ _) rfl⟩ ?_
    clear e0 e1 e4 e5 e6
    rintro m' T' G'' ⟨j, Zr, zr, e0, e1, e4, e5, e6, e7, e8, hm', hjl, hS, hO, hW⟩
    simp (maxSteps := 300000) (disch := omega) only [gs, gs2, gs3, gs4, ↓reduceIte, Nat.reduceEqDiff, Int.reduceToNat, Nat.reduceMul, Nat.reduceAdd, Nat.reduceBEq, isLd, e0, e1, e4, e5, e6, e7, e8]
    by_cases hjj : (j : Int) < wanted.length
    · have q4 := q2.sub hS
      have rw' := (hw3.sub hS).rd j (by omega)
      have hsw := (hw3.sub hS).sn (by omega)
      have rk4 := q4.rows.r k (by omega)
      simp (maxSteps := 300000) (disch := omega) only [gs, gs2, gs3, gs4, ↓reduceIte, Nat.reduceEqDiff, Int.reduceToNat, Nat.reduceMul, Nat.reduceAdd, Nat.reduceBEq, isLd, e0, e1, e4, e5, e6, e7, e8, hjj, hkk, q4.f0, q4.f1, rk4, rw']
      refine spec_l20Cell_ok q4.cols (q4.rows.row k (by omega)) hxl (by omega) fun w hw1 hw2 => ?_
      obtain rfl := hw1 (hmem _ (by simp [List.getD, show j < wanted.length by omega]))
      simp (maxSteps := 300000) (disch := omega) only [gs, gs2, gs3, gs4, ↓reduceIte, Nat.reduceEqDiff, Int.reduceToNat, Nat.reduceMul, Nat.reduceAdd, Nat.reduceBEq, isLd, e0, e1, e4, e5, e6, e7, e8, hjj, hkk, q4.f0, q4.f1, rk4, rw', gBs]
      refine ⟨fun v hv => (by simp at hv; subst hv; rfl), fun bs hbs => ?_⟩
      have sy := Sub.put hbs ⟨[I64 (cellAt t.cols (t.rows.getD k []) (wanted.getD j 0))], true⟩
      refine ⟨⟨rd_sub sy rw', rd_sub sy rk4, rd_sub sy q4.f1, rd_sub sy q4.f0⟩, ?_⟩
      refine ap_own (hW.sub sy) (news := [I64 (cellAt t.cols (t.rows.getD k []) (wanted.getD j 0))]) (m := 1) (cells_one _ true) rfl (by intro v hv; simp at hv; subst hv; rfl) rfl (by omega) (by omega) (by omega) fun G6 A6 c6 hW6 keep => ?_
      obtain ⟨hS6, hO6⟩ := keep G' (hS.trans sy) hO
      have q6 := q2.sub hS6
      simp (maxSteps := 300000) (disch := omega) only [gs, gs2, gs3, gs4, ↓reduceIte, Nat.reduceEqDiff, Int.reduceToNat, Nat.reduceMul, Nat.reduceAdd, Nat.reduceBEq, isLd, e0, e1, e4, e5, e6, e7, e8, q6.f0, q6.f1, q6.rows.r k (by omega), (hw3.sub hS6).rd j (by omega)]
      refine ⟨m' - 1, by omega, G6, Sub.refl _, j + 1, A6, c6, rfl, rfl, by omega, by omega, hS6, hO6, ?_⟩
      refine hW6.cast ?_ rfl
      rw [map_take (d := 0) (show j < wanted.length by omega), List.map_append]
      rfl
    · simp (maxSteps := 300000) (disch := omega) only [gs, gs2, gs3, gs4, ↓reduceIte, Nat.reduceEqDiff, Int.reduceToNat, Nat.reduceMul, Nat.reduceAdd, Nat.reduceBEq, isLd, e0, e1, e4, e5, e6, e7, e8, hjj]
      obtain rfl : j = wanted.length := by omega
      rw [List.take_length] at hW
      have f50 : rd G'' (some ⟨b5, 1, none⟩) = some (.slice Z (srt ((t.rows.take k).map (prj t.cols wanted))).length z) := rd_sub (hX.sub.trans hS) (rd_box _ _ _ 1 _ rfl)
      simp (maxSteps := 300000) (disch := omega) only [gs, gs2, gs3, gs4, ↓reduceIte, Nat.reduceEqDiff, Int.reduceToNat, Nat.reduceMul, Nat.reduceAdd, Nat.reduceBEq, isLd, e0, e1, e4, e5, e6, e7, e8, f50]
      have hX' := hX.up hS
      have hP : IntS G'' Zr zr (prj t.cols wanted (t.rows.getD k [])) := hW.ints' (prj_len _ _ _).symm
      rw [show Value.slice Zr wanted.length zr = Value.slice Zr (prj t.cols wanted (t.rows.getD k [])).length zr by rw [prj_len]]
      refine spec_l20Put_ok hX'.own (srt_asc _) hP (by omega) (fun i hi => ?_) (by rw [prj_len]; omega) fun G4 Z' z' hs' s4' hO4 oZ4 oR4 => ?_
      · have hm : (srt ((t.rows.take k).map (prj t.cols wanted))).getD i [] ∈ srt ((t.rows.take k).map (prj t.cols wanted)) := getD_memL hi
        rw [srt_mem] at hm
        obtain ⟨r, _, hr⟩ := List.mem_map.1 hm
        rw [← hr, prj_len]; omega
      simp (maxSteps := 300000) (disch := omega) only [gs, gs2, gs3, gs4, ↓reduceIte, Nat.reduceEqDiff, Int.reduceToNat, Nat.reduceMul, Nat.reduceAdd, Nat.reduceBEq, isLd, e0, e1, e4, e5, e6, e7, e8]
      refine hX'.repl s4' hO4 oZ4 oR4 fun G5 hX5 => ?_
      simp (maxSteps := 300000) (disch := omega) only [gs, gs2, gs3, gs4, ↓reduceIte, Nat.reduceEqDiff, Int.reduceToNat, Nat.reduceMul, Nat.reduceAdd, Nat.reduceBEq, isLd, e0, e1, e4, e5, e6]
      exact ⟨m - 1, by omega, G5, Sub.refl _, k + 1, Z', z', hs', rfl, by omega, by omega, by rw [htk]; exact hX5⟩
  · obtain rfl : k = t.rows.length := by omega
    rw [List.take_length] at hX
    have f50 : rd G' (some ⟨b5, 0, none⟩) = some (.slice A1 wanted.length c1) := rd_sub hX.sub (rd_box _ _ _ 0 _ rfl)
    have f51 : rd G' (some ⟨b5, 1, none⟩) = some (.slice Z (srt (t.rows.map (prj t.cols wanted))).length z) := rd_sub hX.sub (rd_box _ _ _ 1 _ rfl)
    simp (maxSteps := 300000) (disch := omega) only [gs, gs2, gs3, gs4, ↓reduceIte, Nat.reduceEqDiff, Int.reduceToNat, Nat.reduceMul, Nat.reduceAdd, Nat.reduceBEq, isLd, e0, e1, e4, e5, e6, q2.f1, hkk, f50, f51]
    refine st_many (vs := [.slice A1 wanted.length c1, .slice Z (srt (t.rows.map (prj t.cols wanted))).length z]) rfl (hX.low _ _ g4') rfl (by simp) (by intro v hv; simp at hv; rcases hv with rfl | rfl <;> rfl) ?_
    simp only [over, List.set_cons_zero, List.set_cons_succ]
    have k0 : rd (put G' b4 ⟨[.slice A1 wanted.length c1, .slice Z (srt (t.rows.map (prj t.cols wanted))).length z], true⟩) (some ⟨b4, 0, none⟩) = some (.slice A1 wanted.length c1) := rd_box _ _ _ 0 _ rfl
    have k1 : rd (put G' b4 ⟨[.slice A1 wanted.length c1, .slice Z (srt (t.rows.map (prj t.cols wanted))).length z], true⟩) (some ⟨b4, 1, none⟩) = some (.slice Z (srt (t.rows.map (prj t.cols wanted))).length z) := rd_box _ _ _ 1 _ rfl
    simp (maxSteps := 300000) (disch := omega) only [gs, gs2, gs3, gs4, ↓reduceIte, Nat.reduceEqDiff, Int.reduceToNat, Nat.reduceMul, Nat.reduceAdd, Nat.reduceBEq, isLd, e4, k0, k1]
    exact ⟨_, Sub.refl _, hk _ _ _ _ _ _ (hX.newT (N := projT t wanted) sH hA1 oA1 ((sH.trans hX.low).skip hb4) (Oth.put _ _ _) n41 (fun x hx => by subst hx; rw [g4']; simp))⟩
open Classical in
noncomputable def projV (t : Tab) (w : List Int) : Tab × Int := if TabOk t then (if Rise w ∧ ∀ v ∈ w, v ∈ t.cols then (projT t w, 0) else (⟨[], []⟩, 2)) else (⟨[], []⟩, 1)
theorem projV_no {t : Tab} {w : List Int} (h : ¬ TabOk t) : projV t w = (⟨[], []⟩, 1) := by unfold projV; rw [if_neg h]
theorem projV_off {t : Tab} {w : List Int} (h : TabOk t) (k : ¬ (Rise w ∧ ∀ v ∈ w, v ∈ t.cols)) : projV t w = (⟨[], []⟩, 2) := by unfold projV; rw [if_pos h, if_neg k]
theorem projV_yes {t : Tab} {w : List Int} (h : TabOk t) (k : Rise w ∧ ∀ v ∈ w, v ∈ t.cols) : projV t w = (projT t w, 0) := by unfold projV; rw [if_pos h, if_pos k]
theorem impl_hasColumns_fn1_ok {G : GH} {q A : Option Addr} {c : Nat} {xs : List Int} {v : Int} (hq : rd G q = some (.slice A xs.length c)) (h : IntS G A c xs) (hl : xs.length < 2 ^ 40) {K : Value → GH → Prop} (hk : K (.bool (!decide (v ∈ xs))) G) :
    GC Try.prog 79 [.int .i64 v, .pointer q] G K := by
  refine c_impl_hasColumns_fn1_i (by simp) ?_
  have hs := rd_some hq
  simp (maxSteps := 300000) (disch := omega) only [gs, gs2, gs3, gs4, ↓reduceIte, Nat.reduceEqDiff, Int.reduceToNat, Nat.reduceMul, Nat.reduceAdd, Nat.reduceBEq, isLd, hq, pa_zero]
  refine slices_Contains_ok h hl fun b hb => ?_
  have : b = decide (v ∈ xs) := Bool.eq_iff_iff.2 (by rw [hb, decide_eq_true_eq])
  subst this
  simp (maxSteps := 300000) (disch := omega) only [gs, gs2, gs3, gs4, ↓reduceIte, Nat.reduceEqDiff, Int.reduceToNat, Nat.reduceMul, Nat.reduceAdd, Nat.reduceBEq, isLd]
  exact hk
theorem impl_hasColumns_ok {G : GH} {t : Tab} {A B W : Option Addr} {c d w : Nat} {ws : List Int} (h : IntS G A c t.cols) (hw : IntS G W w ws) (hl : t.cols.length < 2 ^ 30) (hl' : ws.length < 2 ^ 30) {K : Value → GH → Prop}
    (hk : ∀ z : Bool, (z = true ↔ ∀ v ∈ ws, v ∈ t.cols) → K (.bool z) G) : GC Try.prog 52 [tabV t A c B d, .slice W ws.length w] G K := by
  refine GC_drop (c_impl_hasColumns_i (by simp) ?_)
  unfold tabV tabC
  simp (maxSteps := 300000) (disch := omega) only [gs, gs2, gs3, gs4, ↓reduceIte, Nat.reduceEqDiff, Int.reduceToNat, Nat.reduceMul, Nat.reduceAdd, Nat.reduceBEq, isLd]
  intro b2 hb2
  have s2 := Sub.put hb2 ⟨[.slice A t.cols.length c, .slice B t.rows.length d], true⟩
  have f2 : rd (put G b2 ⟨[.slice A t.cols.length c, .slice B t.rows.length d], true⟩) (some ⟨b2, 0, none⟩) = some (.slice A t.cols.length c) := rd_box _ _ _ 0 _ rfl
  revert s2 f2
  generalize put G b2 ⟨[.slice A t.cols.length c, .slice B t.rows.length d], true⟩ = G1
  intro s2 f2
  simp (maxSteps := 300000) (disch := omega) only [gs, gs2, gs3, gs4, ↓reduceIte, Nat.reduceEqDiff, Int.reduceToNat, Nat.reduceMul, Nat.reduceAdd, Nat.reduceBEq, isLd]
  refine slices_ContainsFunc_ok (fun v => !decide (v ∈ t.cols)) (hw.sub s2) (by omega) (fun i hi K' hK' => ?_) ?_
  · simp (maxSteps := 300000) (disch := omega) only [gs, gs2, gs3, gs4, ↓reduceIte, Nat.reduceEqDiff, Int.reduceToNat, Nat.reduceMul, Nat.reduceAdd, Nat.reduceBEq, isLd]
    exact impl_hasColumns_fn1_ok f2 (h.sub s2) (by omega) hK'
  · generalize hany : (ws.any fun v => !decide (v ∈ t.cols)) = bb
    simp (maxSteps := 300000) (disch := omega) only [gs, gs2, gs3, gs4, ↓reduceIte, Nat.reduceEqDiff, Int.reduceToNat, Nat.reduceMul, Nat.reduceAdd, Nat.reduceBEq, isLd]
    refine ⟨G, s2, hk _ ?_⟩
    cases bb
    · rw [List.any_eq_false] at hany
      simp
      exact fun x hx => by simpa using hany x hx
    · rw [List.any_eq_true] at hany
      obtain ⟨x, hx, hy⟩ := hany
      simp
      exact ⟨x, hx, by simpa using hy⟩
theorem impl_ProjectTable_ok {G : GH} {t : Tab} {A B W : Option Addr} {c d w : Nat} {hs : Nat → Option Addr × Nat} {ws : List Int} (h : IntS G A c t.cols) (hr : RowS G B d hs t.rows) (hw : IntS G W w ws) (hl : t.cols.length < 2 ^ 40) (ht : Sh t.rows) (hl' : ws.length < 2 ^ 30)
    {K : Value → GH → Prop} (hk : TI (projV t ws) K G) : GC Try.prog 22 [tabV t A c B d, .slice W ws.length w] G K := by
  refine GC_drop (c_impl_ProjectTable_i (by simp) ?_)
  have fb : ∀ {G' : GH} {q : Nat} {N : Tab} {A B : Option Addr} {c d : Nat} {hs : Nat → Option Addr × Nat}, TabP G' (some ⟨q, 0, none⟩) N A c B d hs → rd G' (some ⟨q, 1, none⟩) = some (.slice B N.rows.length d) := fun h => by
    have := h.f1; rwa [pa_mk] at this
  unfold tabV tabC
  simp (maxSteps := 300000) (disch := omega) only [gs, gs2, gs3, gs4, ↓reduceIte, Nat.reduceEqDiff, Int.reduceToNat, Nat.reduceMul, Nat.reduceAdd, Nat.reduceBEq, isLd]
  intro b2 hb2
  have p2 := TabP.box hb2 h hr
  have s2 := Sub.put hb2 ⟨tabC t A c B d, true⟩
  unfold tabC at p2 s2
  have hw2 := hw.sub s2
  revert s2 p2 hw2
  generalize put G b2 ⟨[.slice A t.cols.length c, .slice B t.rows.length d], true⟩ = G1
  intro p2 s1 hw2
  clear hb2
  simp (maxSteps := 300000) (disch := omega) only [gs, gs2, gs3, gs4, ↓reduceIte, Nat.reduceEqDiff, Int.reduceToNat, Nat.reduceMul, Nat.reduceAdd, Nat.reduceBEq, isLd]
  intro b4 hb4
  have s4 := Sub.put hb4 ⟨[.slice none 0 0, .slice none 0 0], true⟩
  have g4 := put_same G1 b4 ⟨[.slice none 0 0, .slice none 0 0], true⟩
  have p2 := p2.sub s4
  have hw2 := hw2.sub s4
  have s1' := s1.trans s4
  have n4 : G b4 = none := s1.none hb4
  revert s1' p2 hw2 g4
  generalize put G1 b4 ⟨[.slice none 0 0, .slice none 0 0], true⟩ = G2
  intro g4 p2 hw2 s1'
  clear s4
  have k0 : ∀ {G' : GH} {x y : Value}, rd (put G' b4 ⟨[x, y], true⟩) (some ⟨b4, 0, none⟩) = some x := rd_box _ _ _ 0 _ rfl
  have k1 : ∀ {G' : GH} {x y : Value}, rd (put G' b4 ⟨[x, y], true⟩) (some ⟨b4, 1, none⟩) = some y := rd_box _ _ _ 1 _ rfl
  have hbz : bldV [Value.slice none 0 0, Value.slice none 0 0] [] = some [Value.slice none 0 0, Value.slice none 0 0] := rfl
  simp (maxSteps := 300000) (disch := omega) only [gs, gs2, gs3, gs4, ↓reduceIte, Nat.reduceEqDiff, Int.reduceToNat, Nat.reduceMul, Nat.reduceAdd, Nat.reduceBEq, isLd, p2.f0, fb p2]
  refine impl_ValidTable_ok p2.cols p2.rows hl ht fun z hz => ?_
  cases z
  · simp (maxSteps := 300000) (disch := omega) only [gs, gs2, gs3, gs4, ↓reduceIte, Nat.reduceEqDiff, Int.reduceToNat, Nat.reduceMul, Nat.reduceAdd, Nat.reduceBEq, isLd, p2.f0, fb p2, hbz]
    refine st_many (vs := [.slice none 0 0, .slice none 0 0]) rfl g4 rfl (by simp) (by intro v hv; simp at hv; subst hv; rfl) ?_
    simp only [over, List.set_cons_zero, List.set_cons_succ]
    simp (maxSteps := 300000) (disch := omega) only [gs, gs2, gs3, gs4, ↓reduceIte, Nat.reduceEqDiff, Int.reduceToNat, Nat.reduceMul, Nat.reduceAdd, Nat.reduceBEq, isLd, k0, k1]
    rw [projV_no fun y => by have := hz.2 y; cases this] at hk
    exact ⟨G, s1'.skip n4, hk _ _ _ _ _ _ (NewT.nil G fun _ => (none, 0))⟩
  have hot := hz.1 rfl
  obtain ⟨rt, ct, nt⟩ := hot.rowL
  simp (maxSteps := 300000) (disch := omega) only [gs, gs2, gs3, gs4, ↓reduceIte, Nat.reduceEqDiff, Int.reduceToNat, Nat.reduceMul, Nat.reduceAdd, Nat.reduceBEq, isLd, p2.f0, fb p2]
  refine impl_isRising_ok hw2 (by omega) fun z hz => ?_
  cases z
  · simp (maxSteps := 300000) (disch := omega) only [gs, gs2, gs3, gs4, ↓reduceIte, Nat.reduceEqDiff, Int.reduceToNat, Nat.reduceMul, Nat.reduceAdd, Nat.reduceBEq, isLd, p2.f0, fb p2, hbz]
    refine st_many (vs := [.slice none 0 0, .slice none 0 0]) rfl g4 rfl (by simp) (by intro v hv; simp at hv; subst hv; rfl) ?_
    simp only [over, List.set_cons_zero, List.set_cons_succ]
    simp (maxSteps := 300000) (disch := omega) only [gs, gs2, gs3, gs4, ↓reduceIte, Nat.reduceEqDiff, Int.reduceToNat, Nat.reduceMul, Nat.reduceAdd, Nat.reduceBEq, isLd, k0, k1]
    rw [projV_off hot fun y => by have := hz.2 y.1; cases this] at hk
    exact ⟨G, s1'.skip n4, hk _ _ _ _ _ _ (NewT.nil G fun _ => (none, 0))⟩
  have hrise := hz.1 rfl
  simp (maxSteps := 300000) (disch := omega) only [gs, gs2, gs3, gs4, ↓reduceIte, Nat.reduceEqDiff, Int.reduceToNat, Nat.reduceMul, Nat.reduceAdd, Nat.reduceBEq, isLd, p2.f0, fb p2]
  refine impl_hasColumns_ok p2.cols hw2 (by omega) hl' fun z hz => ?_
  cases z
  · simp (maxSteps := 300000) (disch := omega) only [gs, gs2, gs3, gs4, ↓reduceIte, Nat.reduceEqDiff, Int.reduceToNat, Nat.reduceMul, Nat.reduceAdd, Nat.reduceBEq, isLd, p2.f0, fb p2, hbz]
    refine st_many (vs := [.slice none 0 0, .slice none 0 0]) rfl g4 rfl (by simp) (by intro v hv; simp at hv; subst hv; rfl) ?_
    simp only [over, List.set_cons_zero, List.set_cons_succ]
    simp (maxSteps := 300000) (disch := omega) only [gs, gs2, gs3, gs4, ↓reduceIte, Nat.reduceEqDiff, Int.reduceToNat, Nat.reduceMul, Nat.reduceAdd, Nat.reduceBEq, isLd, k0, k1]
    rw [projV_off hot fun y => by have := hz.2 y.2; cases this] at hk
    exact ⟨G, s1'.skip n4, hk _ _ _ _ _ _ (NewT.nil G fun _ => (none, 0))⟩
  have hmem := hz.1 rfl
  rw [projV_yes hot ⟨hrise, hmem⟩] at hk
  simp (maxSteps := 300000) (disch := omega) only [gs, gs2, gs3, gs4, ↓reduceIte, Nat.reduceEqDiff, Int.reduceToNat, Nat.reduceMul, Nat.reduceAdd, Nat.reduceBEq, isLd, p2.f0, fb p2]
  refine impl_projected_ok p2.cols p2.rows hw2 hmem (by omega) hl' rt (by omega) fun G' X x Y y hs'' hN => ?_
  unfold tabV tabC
  simp (maxSteps := 300000) (disch := omega) only [gs, gs2, gs3, gs4, ↓reduceIte, Nat.reduceEqDiff, Int.reduceToNat, Nat.reduceMul, Nat.reduceAdd, Nat.reduceBEq, isLd]
  refine st_many (vs := [.slice X (projT t ws).cols.length x, .slice Y (projT t ws).rows.length y]) rfl (hN.sub _ _ g4) rfl (by simp) (by intro v hv; simp at hv; rcases hv with rfl | rfl <;> rfl) ?_
  simp only [over, List.set_cons_zero, List.set_cons_succ]
  simp (maxSteps := 300000) (disch := omega) only [gs, gs2, gs3, gs4, ↓reduceIte, Nat.reduceEqDiff, Int.reduceToNat, Nat.reduceMul, Nat.reduceAdd, Nat.reduceBEq, isLd, k0, k1]
  exact ⟨_, Sub.refl _, hk _ _ _ _ _ _ (hN.low s1' ((s1'.trans hN.sub).skip n4) (Oth.put _ _ _) fun x hx => by subst hx; rw [g4]; simp)⟩
theorem spec_ProjectTable_ok {G : GH} {t : Tab} {A B W : Option Addr} {c d w : Nat} {hs : Nat → Option Addr × Nat} {ws : List Int} (h : IntS G A c t.cols) (hr : RowS G B d hs t.rows) (hw : IntS G W w ws) (hl : t.cols.length < 2 ^ 40) (ht : Sh t.rows) (hl' : ws.length < 2 ^ 30)
    {K : Value → GH → Prop} (hk : TI (projV t ws) K G) : GC Try.prog 20 [tabV t A c B d, .slice W ws.length w] G K := by
  refine GC_drop (c_spec_ProjectTable_i (by simp) ?_)
  unfold tabV tabC
  simp (maxSteps := 300000) (disch := omega) only [gs, gs2, gs3, gs4, ↓reduceIte, Nat.reduceEqDiff, Int.reduceToNat, Nat.reduceMul, Nat.reduceAdd, Nat.reduceBEq, isLd]
  intro b2 hb2
  have p2 := TabP.box hb2 h hr
  have s2 := Sub.put hb2 ⟨tabC t A c B d, true⟩
  unfold tabC at p2 s2
  have hw2 := hw.sub s2
  revert s2 p2 hw2
  generalize put G b2 ⟨[.slice A t.cols.length c, .slice B t.rows.length d], true⟩ = G1
  intro p2 s1 hw2
  clear hb2
  simp (maxSteps := 300000) (disch := omega) only [gs, gs2, gs3, gs4, ↓reduceIte, Nat.reduceEqDiff, Int.reduceToNat, Nat.reduceMul, Nat.reduceAdd, Nat.reduceBEq, isLd]
  intro b4 hb4
  have s4 := Sub.put hb4 ⟨[.slice none 0 0, .slice none 0 0], true⟩
  have g4 := put_same G1 b4 ⟨[.slice none 0 0, .slice none 0 0], true⟩
  have p2 := p2.sub s4
  have hw2 := hw2.sub s4
  have s1' := s1.trans s4
  have n4 : G b4 = none := s1.none hb4
  revert s1' p2 hw2 g4
  generalize put G1 b4 ⟨[.slice none 0 0, .slice none 0 0], true⟩ = G2
  intro g4 p2 hw2 s1'
  clear s4
  have k0 : ∀ {G' : GH} {x y : Value}, rd (put G' b4 ⟨[x, y], true⟩) (some ⟨b4, 0, none⟩) = some x := rd_box _ _ _ 0 _ rfl
  have k1 : ∀ {G' : GH} {x y : Value}, rd (put G' b4 ⟨[x, y], true⟩) (some ⟨b4, 1, none⟩) = some y := rd_box _ _ _ 1 _ rfl
  have hbz : bldV [Value.slice none 0 0, Value.slice none 0 0] [] = some [Value.slice none 0 0, Value.slice none 0 0] := rfl
  simp (maxSteps := 300000) (disch := omega) only [gs, gs2, gs3, gs4, ↓reduceIte, Nat.reduceEqDiff, Int.reduceToNat, Nat.reduceMul, Nat.reduceAdd, Nat.reduceBEq, isLd]
  refine spec_l20Ok_ok p2 hl ht fun z hz => ?_
  cases z
  · simp (maxSteps := 300000) (disch := omega) only [gs, gs2, gs3, gs4, ↓reduceIte, Nat.reduceEqDiff, Int.reduceToNat, Nat.reduceMul, Nat.reduceAdd, Nat.reduceBEq, isLd, hbz]
    refine st_many (vs := [.slice none 0 0, .slice none 0 0]) rfl g4 rfl (by simp) (by intro v hv; simp at hv; subst hv; rfl) ?_
    simp only [over, List.set_cons_zero, List.set_cons_succ]
    simp (maxSteps := 300000) (disch := omega) only [gs, gs2, gs3, gs4, ↓reduceIte, Nat.reduceEqDiff, Int.reduceToNat, Nat.reduceMul, Nat.reduceAdd, Nat.reduceBEq, isLd, k0, k1]
    rw [projV_no fun y => by have := hz.2 y; cases this] at hk
    exact ⟨G, s1'.skip n4, hk _ _ _ _ _ _ (NewT.nil G fun _ => (none, 0))⟩
  have hot := hz.1 rfl
  obtain ⟨rt, ct, nt⟩ := hot.rowL
  simp (maxSteps := 300000) (disch := omega) only [gs, gs2, gs3, gs4, ↓reduceIte, Nat.reduceEqDiff, Int.reduceToNat, Nat.reduceMul, Nat.reduceAdd, Nat.reduceBEq, isLd]
  refine spec_l00Rises_ok hw2 (by omega) fun z hz => ?_
  cases z
  · simp (maxSteps := 300000) (disch := omega) only [gs, gs2, gs3, gs4, ↓reduceIte, Nat.reduceEqDiff, Int.reduceToNat, Nat.reduceMul, Nat.reduceAdd, Nat.reduceBEq, isLd, hbz]
    refine st_many (vs := [.slice none 0 0, .slice none 0 0]) rfl g4 rfl (by simp) (by intro v hv; simp at hv; subst hv; rfl) ?_
    simp only [over, List.set_cons_zero, List.set_cons_succ]
    simp (maxSteps := 300000) (disch := omega) only [gs, gs2, gs3, gs4, ↓reduceIte, Nat.reduceEqDiff, Int.reduceToNat, Nat.reduceMul, Nat.reduceAdd, Nat.reduceBEq, isLd, k0, k1]
    rw [projV_off hot fun y => by
      have hb : InB ws 0 7 := fun i hi => by
        have hm := y.2 (ws.getD i 0) (by simp [List.getD, hi])
        obtain ⟨j, hj, e⟩ := List.mem_iff_getElem.1 hm
        have := hot.2.1 j hj
        rw [show t.cols.getD j 0 = t.cols[j] by simp [List.getD, hj], e] at this
        exact this
      have := hz.2 ⟨hb, y.1⟩; cases this] at hk
    exact ⟨G, s1'.skip n4, hk _ _ _ _ _ _ (NewT.nil G fun _ => (none, 0))⟩
  have hrise := (hz.1 rfl).2
  simp (maxSteps := 300000) (disch := omega) only [gs, gs2, gs3, gs4, ↓reduceIte, Nat.reduceEqDiff, Int.reduceToNat, Nat.reduceMul, Nat.reduceAdd, Nat.reduceBEq, isLd]
  refine gLoop_intro (fun m T G' => ∃ k : Nat, T 1 = .slice W ws.length w ∧ T 2 = .pointer (some ⟨b2, 0, none⟩) ∧ T 4 = .pointer (some ⟨b4, 0, none⟩) ∧ T 6 = .int .i64 k ∧ m + k = ws.length ∧ k ≤ ws.length ∧ G' = G2 ∧ ∀ i, i < k → ws.getD i 0 ∈ t.cols) ws.length
    ⟨0, by simp (maxSteps := 300000) (disch := omega) only [gs, gs2, gs3, gs4, ↓reduceIte, Nat.reduceEqDiff, Int.reduceToNat, Nat.reduceMul, Nat.reduceAdd, Nat.reduceBEq, isLd], by simp (maxSteps := 300000) (disch := omega) only [gs, gs2, gs3, gs4, ↓reduceIte, Nat.reduceEqDiff, Int.reduceToNat, Nat.reduceMul, Nat.reduceAdd, Nat.reduceBEq, isLd], by simp (maxSteps := 300000) (disch := omega) only [gs, gs2, gs3, gs4, ↓reduceIte, Nat.reduceEqDiff, Int.reduceToNat, Nat.reduceMul, Nat.reduceAdd, Nat.reduceBEq, isLd], by simp (maxSteps := 300000) (disch := omega) only [gs, gs2, gs3, gs4, ↓reduceIte, Nat.reduceEqDiff, Int.reduceToNat, Nat.reduceMul, Nat.reduceAdd, Nat.reduceBEq, isLd] <;> rfl, by omega, by omega, rfl, fun i hi => by omega⟩ ?_
  rintro m T G' ⟨k, e1, e2, e4, e6, hm, hkl, rfl, hin⟩
  simp (maxSteps := 300000) (disch := omega) only [gs, gs2, gs3, gs4, ↓reduceIte, Nat.reduceEqDiff, Int.reduceToNat, Nat.reduceMul, Nat.reduceAdd, Nat.reduceBEq, isLd, e1, e2, e4, e6]
  by_cases hkk : (k : Int) < ws.length
  · have rk := hw2.rd k (by omega)
    have hsw := hw2.sn (by omega)
    simp (maxSteps := 300000) (disch := omega) only [gs, gs2, gs3, gs4, ↓reduceIte, Nat.reduceEqDiff, Int.reduceToNat, Nat.reduceMul, Nat.reduceAdd, Nat.reduceBEq, isLd, e1, e2, e4, e6, hkk, p2.f0, rk]
    refine spec_l00Has_ok p2.cols hl fun z hz => ?_
    cases z
    · simp (maxSteps := 300000) (disch := omega) only [gs, gs2, gs3, gs4, ↓reduceIte, Nat.reduceEqDiff, Int.reduceToNat, Nat.reduceMul, Nat.reduceAdd, Nat.reduceBEq, isLd, e1, e2, e4, e6, hkk, p2.f0, rk, hbz]
      refine st_many (vs := [.slice none 0 0, .slice none 0 0]) rfl g4 rfl (by simp) (by intro v hv; simp at hv; subst hv; rfl) ?_
      simp only [over, List.set_cons_zero, List.set_cons_succ]
      simp (maxSteps := 300000) (disch := omega) only [gs, gs2, gs3, gs4, ↓reduceIte, Nat.reduceEqDiff, Int.reduceToNat, Nat.reduceMul, Nat.reduceAdd, Nat.reduceBEq, isLd, e4, k0, k1]
      rw [projV_off hot fun y => by
        have := hz.2 (y.2 _ (by simp [List.getD, show k < ws.length by omega]))
        cases this] at hk
      exact ⟨G, s1'.skip n4, hk _ _ _ _ _ _ (NewT.nil G fun _ => (none, 0))⟩
    · simp (maxSteps := 300000) (disch := omega) only [gs, gs2, gs3, gs4, ↓reduceIte, Nat.reduceEqDiff, Int.reduceToNat, Nat.reduceMul, Nat.reduceAdd, Nat.reduceBEq, isLd, e1, e2, e4, e6, hkk, p2.f0, rk]
      refine ⟨m - 1, by omega, _, Sub.refl _, k + 1, rfl, by omega, by omega, rfl, fun i hi => ?_⟩
      by_cases c : i = k
      · subst c; exact hz.1 rfl
      · exact hin i (by omega)
  · simp (maxSteps := 300000) (disch := omega) only [gs, gs2, gs3, gs4, ↓reduceIte, Nat.reduceEqDiff, Int.reduceToNat, Nat.reduceMul, Nat.reduceAdd, Nat.reduceBEq, isLd, e1, e2, e4, e6, hkk]
    obtain rfl : k = ws.length := by omega
    have hmem : ∀ v ∈ ws, v ∈ t.cols := fun v hv => by
      obtain ⟨i, hi, rfl⟩ := List.mem_iff_getElem.1 hv
      have := hin i hi
      rwa [show ws.getD i 0 = ws[i] by simp [List.getD, hi]] at this
    rw [projV_yes hot ⟨hrise, hmem⟩] at hk
    refine spec_l20Project_ok p2 hw2 hmem (by omega) hl' rt (by omega) fun G' X x Y y hs'' hN => ?_
    unfold tabV tabC
    simp (maxSteps := 300000) (disch := omega) only [gs, gs2, gs3, gs4, ↓reduceIte, Nat.reduceEqDiff, Int.reduceToNat, Nat.reduceMul, Nat.reduceAdd, Nat.reduceBEq, isLd, e4]
    refine st_many (vs := [.slice X (projT t ws).cols.length x, .slice Y (projT t ws).rows.length y]) rfl (hN.sub _ _ g4) rfl (by simp) (by intro v hv; simp at hv; rcases hv with rfl | rfl <;> rfl) ?_
    simp only [over, List.set_cons_zero, List.set_cons_succ]
    simp (maxSteps := 300000) (disch := omega) only [gs, gs2, gs3, gs4, ↓reduceIte, Nat.reduceEqDiff, Int.reduceToNat, Nat.reduceMul, Nat.reduceAdd, Nat.reduceBEq, isLd, e4, k0, k1]
    exact ⟨_, Sub.refl _, hk _ _ _ _ _ _ (hN.low s1' ((s1'.trans hN.sub).skip n4) (Oth.put _ _ _) fun x hx => by subst hx; rw [g4]; simp)⟩
theorem rise_len {xs : List Int} (h : Rise xs) (b : InB xs 0 7) : xs.length ≤ 8 := by
  apply Classical.byContradiction; intro c
  have hge : ∀ i, i < xs.length → (i : Int) ≤ xs.getD i 0 := by
    intro i
    induction i with
    | zero => intro hi; exact (b 0 hi).1
    | succ i ih => intro hi; have := ih (by omega); have := h i (by omega); omega
  have := hge 8 (by omega)
  have := (b 8 (by omega)).2
  omega
theorem tsm_of {N : Tab} (hc : N.cols.length ≤ 2 ^ 10) (hr : N.rows.length ≤ 2 ^ 10) (hl : ∀ x ∈ N.rows, x.length ≤ 2 ^ 10) : TSm N := by
  have h1 : ∀ i, i < N.rows.length → (N.rows.getD i []).length ≤ 2 ^ 10 := fun i hi => hl _ (by simp [List.getD, hi])
  have := pre_bd h1 _ (Nat.le_refl _)
  have : 2 ^ 10 * N.rows.length ≤ 2 ^ 10 * 2 ^ 10 := Nat.mul_le_mul_left _ hr
  exact ⟨by omega, ⟨by omega, fun i hi => by have := h1 i hi; omega⟩, by omega⟩
theorem proj_sm (t : Tab) (w : List Int) : TSm (projV t w).1 := by
  by_cases h : TabOk t
  · by_cases k : Rise w ∧ ∀ v ∈ w, v ∈ t.cols
    · rw [projV_yes h k]
      obtain ⟨hr, hc, hn⟩ := h.rowL
      have hb : InB w 0 7 := fun i hi => by
        have hm := k.2 (w.getD i 0) (by simp [List.getD, hi])
        obtain ⟨j, hj, e⟩ := List.mem_iff_getElem.1 hm
        have := h.2.1 j hj
        rw [show t.cols.getD j 0 = t.cols[j] by simp [List.getD, hj], e] at this
        exact this
      have hw := rise_len k.1 hb
      have hs := srt_len (t.rows.map (prj t.cols w))
      rw [List.length_map] at hs
      refine tsm_of (N := projT t w) ?_ ?_ fun x hx => ?_
      · show w.length ≤ 2 ^ 10; omega
      · show (srt (t.rows.map (prj t.cols w))).length ≤ 2 ^ 10; omega
      · have hx' : x ∈ srt (t.rows.map (prj t.cols w)) := hx
        rw [srt_mem] at hx'
        obtain ⟨r, _, hr'⟩ := List.mem_map.1 hx'
        rw [← hr', prj_len]; omega
    · rw [projV_off h k]; exact tsm_of (by simp) (by simp) fun x hx => (by cases hx)
  · rw [projV_no h]; exact tsm_of (by simp) (by simp) fun x hx => (by cases hx)
theorem pj_head {G : GH} {v0 v1 : Value} {x0 : Tab} {x1 : List Int} {X : GCode} (h0 : TableV G v0 x0) (h1 : IntsV G v1 x1)
    (hX : ∀ (T : Nat → Value) (H : GH) (b2 : Nat) (A0 B0 W : Option Addr) (c0 d0 w : Nat) (hs0 : Nat → Option Addr × Nat), T 1 = .slice W x1.length w → T 2 = .pointer (some ⟨b2, 0, none⟩) → TabP H (some ⟨b2, 0, none⟩) x0 A0 c0 B0 d0 hs0 → IntS H W w x1 →
      x0.cols.length ≤ 2 ^ 20 → Sm x0.rows → pre x0.rows x0.rows.length ≤ 2 ^ 20 → x1.length ≤ 2 ^ 20 → gW Try.prog X (RetK [RV.t 4] fun v _ => v = .bool true) T H) :
    gW Try.prog (.seq (.reg c_laws_FnExactProjectTable_0) (.seq (.seq (.reg c_laws_FnExactProjectTable_1) (.cond (tt 19) (.seq (.reg c_laws_FnExactProjectTable_2) (.ret)) (.skip))) (.seq (.reg c_laws_FnExactProjectTable_3) (.seq (.reg c_laws_FnExactProjectTable_4) (.seq (.seq (.reg c_laws_FnExactProjectTable_5) (.cond (tt 24) (.seq (.reg c_laws_FnExactProjectTable_6) (.ret)) (.skip))) X))))) (RetK [RV.t 4] fun v _ => v = .bool true) (T0 [v0, v1]) G := by
  obtain ⟨A0, c0, B0, d0, H0, rfl, h0, k0, l0, m0, n0, e0, ee0⟩ := h0
  obtain ⟨W, w, rfl, h1, e1, l1⟩ := h1
  unfold tabV tabC
  simp (maxSteps := 300000) (disch := omega) only [gs, gs2, gs3, gs4, ↓reduceIte, Nat.reduceEqDiff, Int.reduceToNat, Nat.reduceMul, Nat.reduceAdd, Nat.reduceBEq, isLd]
  intro b2 hb2
  have p2 := TabP.box hb2 h0 k0
  have s2 := Sub.put hb2 ⟨tabC x0 A0 c0 B0 d0, true⟩
  unfold tabC at p2 s2
  have h1 := h1.sub s2
  revert p2 h1
  generalize put G b2 ⟨[.slice A0 x0.cols.length c0, .slice B0 x0.rows.length d0], true⟩ = H
  intro p2 h1
  clear s2 hb2 h0 k0
  simp (maxSteps := 300000) (disch := omega) only [gs, gs2, gs3, gs4, ↓reduceIte, Nat.reduceEqDiff, Int.reduceToNat, Nat.reduceMul, Nat.reduceAdd, Nat.reduceBEq, isLd]
  by_cases g : (1048576 : Int) < x1.length
  · simp (maxSteps := 300000) (disch := omega) only [gs, gs2, gs3, gs4, ↓reduceIte, Nat.reduceEqDiff, Int.reduceToNat, Nat.reduceMul, Nat.reduceAdd, Nat.reduceBEq, isLd, g]
  simp (maxSteps := 300000) (disch := omega) only [gs, gs2, gs3, gs4, ↓reduceIte, Nat.reduceEqDiff, Int.reduceToNat, Nat.reduceMul, Nat.reduceAdd, Nat.reduceBEq, isLd, g, p2.f0, p2.g1]
  refine laws_szTable_ok2 (N := x0) p2.rows ⟨by omega, by omega⟩ l0 m0 n0 fun q0 q0a q0b q0c => ?_
  simp (maxSteps := 300000) (disch := omega) only [gs, gs2, gs3, gs4, ↓reduceIte, Nat.reduceEqDiff, Int.reduceToNat, Nat.reduceMul, Nat.reduceAdd, Nat.reduceBEq, isLd]
  by_cases g0 : q0 < 0
  · simp (maxSteps := 300000) (disch := omega) only [gs, gs2, gs3, gs4, ↓reduceIte, Nat.reduceEqDiff, Int.reduceToNat, Nat.reduceMul, Nat.reduceAdd, Nat.reduceBEq, isLd, g0]
  simp (maxSteps := 300000) (disch := omega) only [gs, gs2, gs3, gs4, ↓reduceIte, Nat.reduceEqDiff, Int.reduceToNat, Nat.reduceMul, Nat.reduceAdd, Nat.reduceBEq, isLd, g0]
  obtain ⟨y0, w0, z0, u0⟩ := q0c (by omega)
  exact hX _ H b2 A0 B0 W c0 d0 w H0 (by simp (maxSteps := 300000) (disch := omega) only [gs, gs2, gs3, gs4, ↓reduceIte, Nat.reduceEqDiff, Int.reduceToNat, Nat.reduceMul, Nat.reduceAdd, Nat.reduceBEq, isLd]) (by simp (maxSteps := 300000) (disch := omega) only [gs, gs2, gs3, gs4, ↓reduceIte, Nat.reduceEqDiff, Int.reduceToNat, Nat.reduceMul, Nat.reduceAdd, Nat.reduceBEq, isLd]) p2 h1 w0 z0 u0 (by omega)
theorem pj_mid {G : GH} {x0 : Tab} {x1 : List Int} {X : GCode} {T : Nat → Value} {b2 : Nat} {A0 B0 W : Option Addr} {c0 d0 w : Nat} {hs0 : Nat → Option Addr × Nat} (e1 : T 1 = .slice W x1.length w) (e2 : T 2 = .pointer (some ⟨b2, 0, none⟩))
    (p2 : TabP G (some ⟨b2, 0, none⟩) x0 A0 c0 B0 d0 hs0) (hw : IntS G W w x1) (l0 : x0.cols.length ≤ 2 ^ 20) (m0 : Sm x0.rows) (u0 : pre x0.rows x0.rows.length ≤ 2 ^ 20) (l1 : x1.length ≤ 2 ^ 20)
    (hX : ∀ (T' : Nat → Value) (G6 G9 C0 C : GH) (b6 b10 : Nat) (Xw Yw Xg Yg : Option Addr) (xw yw xg yg : Nat) (kw kg : Nat → Option Addr × Nat), T' 1 = .slice W x1.length w → T' 2 = .pointer (some ⟨b2, 0, none⟩) → T' 6 = .pointer (some ⟨b6, 0, none⟩) → T' 7 = .int .i64 (projV x0 x1).2 → T' 10 = .pointer (some ⟨b10, 0, none⟩) → T' 11 = .int .i64 (projV x0 x1).2 →
      Sub G G6 → TabP G6 (some ⟨b6, 0, none⟩) (projV x0 x1).1 Xw xw Yw yw kw → Sub G6 G9 → BoxT G9 C0 b10 (projV x0 x1).1 Xg xg Yg yg kg → Sub G6 C → Sub (rest G9 C0) C → gW Try.prog X (RetK [RV.t 4] fun v _ => v = .bool true) T' C) :
    gW Try.prog (.seq (.reg c_laws_FnExactProjectTable_7) (.seq (.reg c_laws_FnExactProjectTable_8) (.seq (.reg c_laws_FnExactProjectTable_9) (.seq (.reg c_laws_FnExactProjectTable_10) (.seq (.seq (.reg c_laws_FnExactProjectTable_11) (.cond (tt 51) (.seq (.reg c_laws_FnExactProjectTable_12) (.ret)) (.skip))) (.seq (.seq (.dreg c_laws_FnExactProjectTable_13) (.cond (tt 56) (.seq (.reg c_laws_FnExactProjectTable_14) (.ret)) (.skip))) (.seq (.seq (.reg c_laws_FnExactProjectTable_15) (.cond (tt 61) (.seq (.reg c_laws_FnExactProjectTable_16) (.ret)) (.skip))) (.seq (.reg c_laws_FnExactProjectTable_17) (.seq (.reg c_laws_FnExactProjectTable_18) (.seq (.reg c_laws_FnExactProjectTable_19) (.seq (.seq (.reg c_laws_FnExactProjectTable_20) (.cond (tt 80) (.seq (.reg c_laws_FnExactProjectTable_21) (.ret)) (.skip))) X))))))))))) (RetK [RV.t 4] fun v _ => v = .bool true) T G := by
  have one2 : ∀ {X Y : Option Addr} {a b x y : Nat}, ∀ v ∈ [Value.slice X a x, Value.slice Y b y], oneB v = true := fun v hv => by simp at hv; rcases hv with rfl | rfl <;> rfl
  obtain ⟨vc, vm, vp⟩ := proj_sm x0 x1
  have z0 : ((projV x0 x1).2 = (projV x0 x1).2) = True := eq_true rfl
  simp (maxSteps := 300000) (disch := omega) only [gs, gs2, gs3, gs4, ↓reduceIte, Nat.reduceEqDiff, Int.reduceToNat, Nat.reduceMul, Nat.reduceAdd, Nat.reduceBEq, isLd, e1, e2, p2.f0, p2.g1]
  refine laws_toTable_new p2.cols p2.rows l0 m0 fun Aa Ba ka Ga na => ?_
  unfold tabV tabC
  simp (maxSteps := 300000) (disch := omega) only [gs, gs2, gs3, gs4, ↓reduceIte, Nat.reduceEqDiff, Int.reduceToNat, Nat.reduceMul, Nat.reduceAdd, Nat.reduceBEq, isLd, e1, e2]
  refine laws_toInt64S_ok (hw.sub na.sub) l1 fun b29 hb29 => ?_
  simp (maxSteps := 300000) (disch := omega) only [gs, gs2, gs3, gs4, ↓reduceIte, Nat.reduceEqDiff, Int.reduceToNat, Nat.reduceMul, Nat.reduceAdd, Nat.reduceBEq, isLd, e1, e2]
  have sb := Sub.put hb29 ⟨x1.map I64, true⟩
  have ib : IntS (put Ga b29 ⟨x1.map I64, true⟩) (some ⟨b29, 0, none⟩) x1.length x1 := New.ints (New.mk hb29 _ 1 _ (by simp))
  refine spec_ProjectTable_ok (na.i.1.sub sb) (na.i.2.sub sb) ib (by omega) m0.sh (by omega) fun Gw Xw xw Yw yw kw nw => ?_
  unfold tabV tabC
  simp (maxSteps := 300000) (disch := omega) only [gs, gs2, gs3, gs4, ↓reduceIte, Nat.reduceEqDiff, Int.reduceToNat, Nat.reduceMul, Nat.reduceAdd, Nat.reduceBEq, isLd, e1, e2]
  intro b6 hb6
  simp (maxSteps := 300000) (disch := omega) only [gs, gs2, gs3, gs4, ↓reduceIte, Nat.reduceEqDiff, Int.reduceToNat, Nat.reduceMul, Nat.reduceAdd, Nat.reduceBEq, isLd, e1, e2]
  refine st_fresh (vs := [.slice Xw (projV x0 x1).1.cols.length xw, .slice Yw (projV x0 x1).1.rows.length yw]) rfl rfl rfl one2 ?_
  have bw := BoxT.mk1 nw (na.sub.trans sb) hb6
  revert bw
  generalize put Gw b6 ⟨[.slice Xw (projV x0 x1).1.cols.length xw, .slice Yw (projV x0 x1).1.rows.length yw], true⟩ = G6
  intro bw
  clear nw hb6 ib sb hb29 na
  have pw := bw.p.sub (Sub.rest _ _)
  have q2 := p2.sub bw.sub
  have qw := hw.sub bw.sub
  -- the arguments' copies
  simp (maxSteps := 300000) (disch := omega) only [gs, gs2, gs3, gs4, ↓reduceIte, Nat.reduceEqDiff, Int.reduceToNat, Nat.reduceMul, Nat.reduceAdd, Nat.reduceBEq, isLd, e1, e2, q2.f0, q2.g1]
  refine laws_toTable_new q2.cols q2.rows l0 m0 fun Aa Ba ka Ga na => ?_
  unfold tabV tabC
  simp (maxSteps := 300000) (disch := omega) only [gs, gs2, gs3, gs4, ↓reduceIte, Nat.reduceEqDiff, Int.reduceToNat, Nat.reduceMul, Nat.reduceAdd, Nat.reduceBEq, isLd, e1, e2]
  intro b8 hb8
  simp (maxSteps := 300000) (disch := omega) only [gs, gs2, gs3, gs4, ↓reduceIte, Nat.reduceEqDiff, Int.reduceToNat, Nat.reduceMul, Nat.reduceAdd, Nat.reduceBEq, isLd, e1, e2]
  refine st_fresh (vs := [.slice Aa x0.cols.length x0.cols.length, .slice Ba x0.rows.length x0.rows.length]) rfl rfl rfl one2 ?_
  have ba := BoxT.mk1 na (Sub.refl G6) hb8
  revert ba
  generalize put Ga b8 ⟨[.slice Aa x0.cols.length x0.cols.length, .slice Ba x0.rows.length x0.rows.length], true⟩ = G8
  intro ba
  clear na hb8
  simp (maxSteps := 300000) (disch := omega) only [gs, gs2, gs3, gs4, ↓reduceIte, Nat.reduceEqDiff, Int.reduceToNat, Nat.reduceMul, Nat.reduceAdd, Nat.reduceBEq, isLd, e1, e2]
  refine laws_toInt64S_ok (qw.sub ba.sub) l1 fun b9 hb9 => ?_
  simp (maxSteps := 300000) (disch := omega) only [gs, gs2, gs3, gs4, ↓reduceIte, Nat.reduceEqDiff, Int.reduceToNat, Nat.reduceMul, Nat.reduceAdd, Nat.reduceBEq, isLd, e1, e2]
  have s9 := Sub.put hb9 ⟨x1.map I64, true⟩
  have g9 := put_same G8 b9 ⟨x1.map I64, true⟩
  revert s9 g9
  generalize put G8 b9 ⟨x1.map I64, true⟩ = G9
  intro s9 g9
  have own9 : ∀ {C : GH}, C b9 = some ⟨x1.map I64, true⟩ → Own C (some ⟨b9, 0, none⟩) x1.length (x1.map I64) 1 x1.length := fun h => .inr ⟨b9, [], rfl, by rw [List.append_nil]; exact h, by simp, by simp, Nat.le_refl _⟩
  have pa9 := ba.p.sub ((Sub.rest _ _).trans s9)
  simp (maxSteps := 300000) (disch := omega) only [gs, gs2, gs3, gs4, ↓reduceIte, Nat.reduceEqDiff, Int.reduceToNat, Nat.reduceMul, Nat.reduceAdd, Nat.reduceBEq, isLd, e1, e2, pa9.f0, pa9.g1]
  refine impl_ProjectTable_ok pa9.cols pa9.rows (own9 g9).ints (by omega) m0.sh (by omega) fun Gg Xg xg Yg yg kg nG => ?_
  unfold tabV tabC
  simp (maxSteps := 300000) (disch := omega) only [gs, gs2, gs3, gs4, ↓reduceIte, Nat.reduceEqDiff, Int.reduceToNat, Nat.reduceMul, Nat.reduceAdd, Nat.reduceBEq, isLd, e1, e2]
  intro b10 hb10
  simp (maxSteps := 300000) (disch := omega) only [gs, gs2, gs3, gs4, ↓reduceIte, Nat.reduceEqDiff, Int.reduceToNat, Nat.reduceMul, Nat.reduceAdd, Nat.reduceBEq, isLd, e1, e2]
  refine st_fresh (vs := [.slice Xg (projV x0 x1).1.cols.length xg, .slice Yg (projV x0 x1).1.rows.length yg]) rfl rfl rfl one2 ?_
  have sg9 : Sub G6 G9 := ba.sub.trans s9
  have bg := BoxT.mk1 nG (Sub.refl G9) hb10
  revert bg
  generalize put Gg b10 ⟨[.slice Xg (projV x0 x1).1.cols.length xg, .slice Yg (projV x0 x1).1.rows.length yg], true⟩ = C
  intro bg
  clear nG hb10 pa9
  have sG : Sub G6 C := sg9.trans bg.sub
  have sa : Sub (rest G6 G8) C := ((Sub.rest _ _).trans s9).trans bg.sub
  have sg : Sub (rest G9 C) C := Sub.rest _ _
  have h9 : C b9 = some ⟨x1.map I64, true⟩ := bg.sub _ _ g9
  -- the results are the same
  have pg := bg.p.sub sg
  have pw' := pw.sub sG
  simp (maxSteps := 300000) (disch := omega) only [gs, gs2, gs3, gs4, ↓reduceIte, Nat.reduceEqDiff, Int.reduceToNat, Nat.reduceMul, Nat.reduceAdd, Nat.reduceBEq, isLd, e1, e2, pg.f0, pg.g1, pw'.f0, pw'.g1]
  refine laws_eqTable_ok pg.cols pg.rows pw'.cols pw'.rows (by omega) (by have := vm.1; omega) (fun i hi => by have := vm.2 i hi; omega) fun z hz => ?_
  obtain rfl : z = true := hz.2 rfl
  simp (maxSteps := 300000) (disch := omega) only [gs, gs2, gs3, gs4, ↓reduceIte, Nat.reduceEqDiff, Int.reduceToNat, Nat.reduceMul, Nat.reduceAdd, Nat.reduceBEq, isLd, e1, e2, z0]
  -- the arguments stand
  have r2 := q2.sub sG
  have qa := ba.p.sub sa
  simp (maxSteps := 300000) (disch := omega) only [gs, gs2, gs3, gs4, ↓reduceIte, Nat.reduceEqDiff, Int.reduceToNat, Nat.reduceMul, Nat.reduceAdd, Nat.reduceBEq, isLd, e1, e2, qa.f0, qa.g1, r2.f0, r2.g1]
  refine laws_toTable_ok' r2.cols r2.rows l0 m0 fun Ae Be ke Ge se ie re => ?_
  simp (maxSteps := 300000) (disch := omega) only [gs, gs2, gs3, gs4, ↓reduceIte, Nat.reduceEqDiff, Int.reduceToNat, Nat.reduceMul, Nat.reduceAdd, Nat.reduceBEq, isLd, e1, e2, rd_sub se qa.f0, rd_sub se qa.g1, rd_sub se r2.f0, rd_sub se r2.g1]
  refine laws_eqTable_ok (N := x0) (M := x0) (qa.cols.sub se) (qa.rows.sub se) ie re (by omega) (by have := m0.1; omega) (fun i hi => by have := m0.2 i hi; omega) fun z hz => ?_
  obtain rfl : z = true := hz.2 rfl
  have sGe := sG.trans se
  simp (maxSteps := 300000) (disch := omega) only [gs, gs2, gs3, gs4, ↓reduceIte, Nat.reduceEqDiff, Int.reduceToNat, Nat.reduceMul, Nat.reduceAdd, Nat.reduceBEq, isLd, e1, e2, rd_sub se qa.f0, rd_sub se qa.g1, rd_sub se r2.f0, rd_sub se r2.g1]
  refine laws_toInt64S_ok' (qw.sub sGe) l1 fun Af Gf sf iff => ?_
  simp (maxSteps := 300000) (disch := omega) only [gs, gs2, gs3, gs4, ↓reduceIte, Nat.reduceEqDiff, Int.reduceToNat, Nat.reduceMul, Nat.reduceAdd, Nat.reduceBEq, isLd, e1, e2]
  refine laws_eqInt64S_ok ((own9 (sf _ _ (se _ _ h9))).ints) iff (by omega) ?_
  simp (maxSteps := 300000) (disch := omega) only [gs, gs2, gs3, gs4, ↓reduceIte, Nat.reduceEqDiff, Int.reduceToNat, Nat.reduceMul, Nat.reduceAdd, Nat.reduceBEq, isLd, e1, e2, eq_self]
  have s2f := se.trans sf
  have sG := sG.trans s2f
  have sa := sa.trans s2f
  have sg := sg.trans s2f
  have h9 := s2f _ _ h9
  clear r2 qa ie re iff pg pw' sGe
  -- marks in the arguments
  have qa := ba.p.sub sa
  simp (maxSteps := 300000) (disch := omega) only [gs, gs2, gs3, gs4, ↓reduceIte, Nat.reduceEqDiff, Int.reduceToNat, Nat.reduceMul, Nat.reduceAdd, Nat.reduceBEq, isLd, e1, e2, qa.f0, qa.g1]
  refine laws_markTable_ok (ba.own.sub sa) l0 m0 u0 (by omega) fun Gh1 v1 _ => ?_
  have n9 : ¬ tabB Aa Ba ka x0.rows.length b9 := fun y => (ba.off _ y).2 hb9
  have sG := v1.sub sG fun x hx => (ba.off x hx).1
  have sg := v1.sub sg fun x hx => rest_no (on_sub s9 (ba.off x hx).2)
  have h9 := (v1 b9 n9).trans h9
  simp (maxSteps := 300000) (disch := omega) only [gs, gs2, gs3, gs4, ↓reduceIte, Nat.reduceEqDiff, Int.reduceToNat, Nat.reduceMul, Nat.reduceAdd, Nat.reduceBEq, isLd, e1, e2]
  refine laws_markInt64S_ok (own9 h9) (by omega) (by omega) fun Gh2 v2 _ => ?_
  have sG := v2.oth.sub sG fun x ⟨a, ha, hx⟩ => by cases ha; subst hx; exact ba.sub.none hb9
  have sg := v2.oth.sub sg fun x ⟨a, ha, hx⟩ => by cases ha; subst hx; exact rest_no (by rw [g9]; simp)
  have pg := bg.p.sub sg
  have pw' := pw.sub sG
  have nn : ∀ z : Int, 0 ≤ z → (z < 0) = False := fun z hz => eq_false (by omega)
  simp (maxSteps := 300000) (disch := omega) only [gs, gs2, gs3, gs4, ↓reduceIte, Nat.reduceEqDiff, Int.reduceToNat, Nat.reduceMul, Nat.reduceAdd, Nat.reduceBEq, isLd, e1, e2, pg.f0, pg.g1, pw'.f0, pw'.g1, nn]
  refine laws_eqTable_ok pg.cols pg.rows pw'.cols pw'.rows (by omega) (by have := vm.1; omega) (fun i hi => by have := vm.2 i hi; omega) fun z hz => ?_
  obtain rfl : z = true := hz.2 rfl
  simp (maxSteps := 300000) (disch := omega) only [gs, gs2, gs3, gs4, ↓reduceIte, Nat.reduceEqDiff, Int.reduceToNat, Nat.reduceMul, Nat.reduceAdd, Nat.reduceBEq, isLd, e1, e2, z0, pg.f0, pg.g1]
  exact hX _ G6 G9 C Gh2 b6 b10 Xw Yw Xg Yg xw yw xg yg kw kg (by simp (maxSteps := 300000) (disch := omega) only [gs, gs2, gs3, gs4, ↓reduceIte, Nat.reduceEqDiff, Int.reduceToNat, Nat.reduceMul, Nat.reduceAdd, Nat.reduceBEq, isLd, e1]) (by simp (maxSteps := 300000) (disch := omega) only [gs, gs2, gs3, gs4, ↓reduceIte, Nat.reduceEqDiff, Int.reduceToNat, Nat.reduceMul, Nat.reduceAdd, Nat.reduceBEq, isLd, e2]) (by simp (maxSteps := 300000) (disch := omega) only [gs, gs2, gs3, gs4, ↓reduceIte, Nat.reduceEqDiff, Int.reduceToNat, Nat.reduceMul, Nat.reduceAdd, Nat.reduceBEq, isLd]) (by simp (maxSteps := 300000) (disch := omega) only [gs, gs2, gs3, gs4, ↓reduceIte, Nat.reduceEqDiff, Int.reduceToNat, Nat.reduceMul, Nat.reduceAdd, Nat.reduceBEq, isLd]) (by simp (maxSteps := 300000) (disch := omega) only [gs, gs2, gs3, gs4, ↓reduceIte, Nat.reduceEqDiff, Int.reduceToNat, Nat.reduceMul, Nat.reduceAdd, Nat.reduceBEq, isLd]) (by simp (maxSteps := 300000) (disch := omega) only [gs, gs2, gs3, gs4, ↓reduceIte, Nat.reduceEqDiff, Int.reduceToNat, Nat.reduceMul, Nat.reduceAdd, Nat.reduceBEq, isLd]) bw.sub pw sg9 bg sG sg
theorem pj_tail {G : GH} {x0 : Tab} {x1 : List Int} {T : Nat → Value} {b2 : Nat} {A0 B0 W : Option Addr} {c0 d0 w : Nat} {hs0 : Nat → Option Addr × Nat} {G6 G9 C0 C : GH} {b6 b10 : Nat} {Xw Yw Xg Yg : Option Addr} {xw yw xg yg : Nat} {kw kg : Nat → Option Addr × Nat}
    (p2 : TabP G (some ⟨b2, 0, none⟩) x0 A0 c0 B0 d0 hs0) (hw : IntS G W w x1) (l0 : x0.cols.length ≤ 2 ^ 20) (m0 : Sm x0.rows) (l1 : x1.length ≤ 2 ^ 20)
    (e1 : T 1 = .slice W x1.length w) (e2 : T 2 = .pointer (some ⟨b2, 0, none⟩)) (e6 : T 6 = .pointer (some ⟨b6, 0, none⟩)) (e7 : T 7 = .int .i64 (projV x0 x1).2) (e10 : T 10 = .pointer (some ⟨b10, 0, none⟩)) (e11 : T 11 = .int .i64 (projV x0 x1).2)
    (s6 : Sub G G6) (pw : TabP G6 (some ⟨b6, 0, none⟩) (projV x0 x1).1 Xw xw Yw yw kw) (s9 : Sub G6 G9) (bg : BoxT G9 C0 b10 (projV x0 x1).1 Xg xg Yg yg kg) (sG : Sub G6 C) (sg : Sub (rest G9 C0) C) :
    gW Try.prog (.seq (.reg c_laws_FnExactProjectTable_22) (.seq (.reg c_laws_FnExactProjectTable_23) (.seq (.reg c_laws_FnExactProjectTable_24) (.seq (.reg c_laws_FnExactProjectTable_25) (.seq (.seq (.reg c_laws_FnExactProjectTable_26) (.cond (tt 88) (.seq (.reg c_laws_FnExactProjectTable_27) (.ret)) (.skip))) (.seq (.seq (.reg c_laws_FnExactProjectTable_28) (.cond (tt 91) (.seq (.reg c_laws_FnExactProjectTable_29) (.ret)) (.skip))) (.seq (.reg c_laws_FnExactProjectTable_30) (.seq (.seq (.reg c_laws_FnExactProjectTable_31) (.cond (tt 108) (.seq (.reg c_laws_FnExactProjectTable_32) (.ret)) (.skip))) (.seq (.reg c_laws_FnExactProjectTable_33) (.seq (.reg c_laws_FnExactProjectTable_34) (.seq (.seq (.reg c_laws_FnExactProjectTable_35) (.cond (tt 113) (.seq (.reg c_laws_FnExactProjectTable_36) (.ret)) (.skip))) (.seq (.seq (.reg c_laws_FnExactProjectTable_37) (.cond (tt 116) (.seq (.reg c_laws_FnExactProjectTable_38) (.ret)) (.skip))) (.seq (.reg c_laws_FnExactProjectTable_39) (.ret)))))))))))))) (RetK [RV.t 4] fun v _ => v = .bool true) T C := by
  have one2 : ∀ {X Y : Option Addr} {a b x y : Nat}, ∀ v ∈ [Value.slice X a x, Value.slice Y b y], oneB v = true := fun v hv => by simp at hv; rcases hv with rfl | rfl <;> rfl
  obtain ⟨vc, vm, vp⟩ := proj_sm x0 x1
  have z0 : ((projV x0 x1).2 = (projV x0 x1).2) = True := eq_true rfl
  have nn : ∀ z : Int, 0 ≤ z → (z < 0) = False := fun z hz => eq_false (by omega)
  have pg := bg.p.sub sg
  simp (maxSteps := 300000) (disch := omega) only [gs, gs2, gs3, gs4, ↓reduceIte, Nat.reduceEqDiff, Int.reduceToNat, Nat.reduceMul, Nat.reduceAdd, Nat.reduceBEq, isLd, e1, e2, e6, e7, e10, e11, pg.f0, pg.g1]
  refine laws_markTable_ok (bg.own.sub sg) vc vm vp (by omega) fun Gh3 v3 hm => ?_
  have sG := v3.sub sG fun x hx => s9.none (bg.off x hx).1
  have hb : Gh3 b10 = C b10 := v3 b10 bg.nb
  have k0 : rd Gh3 (some ⟨b10, 0, none⟩) = some (.slice Xg (projV x0 x1).1.cols.length xg) := by
    have := pg.f0; simp only [rd] at this ⊢; rw [hb]; exact this
  have k1 : rd Gh3 (some ⟨b10, 1, none⟩) = some (.slice Yg (projV x0 x1).1.rows.length yg) := by
    have := pg.g1; simp only [rd] at this ⊢; rw [hb]; exact this
  simp (maxSteps := 300000) (disch := omega) only [gs, gs2, gs3, gs4, ↓reduceIte, Nat.reduceEqDiff, Int.reduceToNat, Nat.reduceMul, Nat.reduceAdd, Nat.reduceBEq, isLd, e1, e2, e6, e7, e10, e11, k0, k1]
  refine laws_heldTable_ok hm vc vm vp (by omega) ?_
  have q2 := (p2.sub s6).sub sG
  have qw := (hw.sub s6).sub sG
  simp (maxSteps := 300000) (disch := omega) only [gs, gs2, gs3, gs4, ↓reduceIte, Nat.reduceEqDiff, Int.reduceToNat, Nat.reduceMul, Nat.reduceAdd, Nat.reduceBEq, isLd, e1, e2, e6, e7, e10, e11, k0, k1, nn, q2.f0, q2.g1, eq_true (show (1 : Int) + ((projV x0 x1).1.cols.length : Int) + (pre (projV x0 x1).1.rows (projV x0 x1).1.rows.length : Int) = 1 + ((projV x0 x1).1.cols.length : Int) + (pre (projV x0 x1).1.rows (projV x0 x1).1.rows.length : Int) from rfl)]
  refine laws_toTable_new q2.cols q2.rows l0 m0 fun Aa Ba ka Ga na => ?_
  unfold tabV tabC
  simp (maxSteps := 300000) (disch := omega) only [gs, gs2, gs3, gs4, ↓reduceIte, Nat.reduceEqDiff, Int.reduceToNat, Nat.reduceMul, Nat.reduceAdd, Nat.reduceBEq, isLd, e1, e2, e6, e7, e10, e11]
  refine laws_toInt64S_ok (qw.sub na.sub) l1 fun b29 hb29 => ?_
  simp (maxSteps := 300000) (disch := omega) only [gs, gs2, gs3, gs4, ↓reduceIte, Nat.reduceEqDiff, Int.reduceToNat, Nat.reduceMul, Nat.reduceAdd, Nat.reduceBEq, isLd, e1, e2, e6, e7, e10, e11]
  have sb := Sub.put hb29 ⟨x1.map I64, true⟩
  have ib : IntS (put Ga b29 ⟨x1.map I64, true⟩) (some ⟨b29, 0, none⟩) x1.length x1 := New.ints (New.mk hb29 _ 1 _ (by simp))
  refine impl_ProjectTable_ok (na.i.1.sub sb) (na.i.2.sub sb) ib (by omega) m0.sh (by omega) fun Gw Xh xh Yh yh kh nw => ?_
  unfold tabV tabC
  simp (maxSteps := 300000) (disch := omega) only [gs, gs2, gs3, gs4, ↓reduceIte, Nat.reduceEqDiff, Int.reduceToNat, Nat.reduceMul, Nat.reduceAdd, Nat.reduceBEq, isLd, e1, e2, e6, e7, e10, e11]
  intro b15 hb15
  simp (maxSteps := 300000) (disch := omega) only [gs, gs2, gs3, gs4, ↓reduceIte, Nat.reduceEqDiff, Int.reduceToNat, Nat.reduceMul, Nat.reduceAdd, Nat.reduceBEq, isLd, e1, e2, e6, e7, e10, e11]
  refine st_fresh (vs := [.slice Xh (projV x0 x1).1.cols.length xh, .slice Yh (projV x0 x1).1.rows.length yh]) rfl rfl rfl one2 ?_
  have bh := BoxT.mk1 nw (na.sub.trans sb) hb15
  revert bh
  generalize put Gw b15 ⟨[.slice Xh (projV x0 x1).1.cols.length xh, .slice Yh (projV x0 x1).1.rows.length yh], true⟩ = G15
  intro bh
  clear nw hb15 ib sb hb29 na
  have ph := bh.p.sub (Sub.rest _ _)
  have pw' := (pw.sub sG).sub bh.sub
  simp (maxSteps := 300000) (disch := omega) only [gs, gs2, gs3, gs4, ↓reduceIte, Nat.reduceEqDiff, Int.reduceToNat, Nat.reduceMul, Nat.reduceAdd, Nat.reduceBEq, isLd, e1, e2, e6, e7, e10, e11, ph.f0, ph.g1, pw'.f0, pw'.g1]
  refine laws_eqTable_ok ph.cols ph.rows pw'.cols pw'.rows (by omega) (by have := vm.1; omega) (fun i hi => by have := vm.2 i hi; omega) fun z hz => ?_
  obtain rfl : z = true := hz.2 rfl
  simp (maxSteps := 300000) (disch := omega) only [gs, gs2, gs3, gs4, ↓reduceIte, Nat.reduceEqDiff, Int.reduceToNat, Nat.reduceMul, Nat.reduceAdd, Nat.reduceBEq, isLd, e1, e2, e6, e7, e10, e11, z0, rd_sub bh.sub k0, rd_sub bh.sub k1]
  refine laws_heldTable_ok (hm.sub bh.sub) vc vm vp (by omega) ?_
  simp (maxSteps := 300000) (disch := omega) only [gs, gs2, gs3, gs4, ↓reduceIte, Nat.reduceEqDiff, Int.reduceToNat, Nat.reduceMul, Nat.reduceAdd, Nat.reduceBEq, isLd, e1, e2, e6, e7, e10, e11, nn, eq_true (show (1 : Int) + ((projV x0 x1).1.cols.length : Int) + (pre (projV x0 x1).1.rows (projV x0 x1).1.rows.length : Int) = 1 + ((projV x0 x1).1.cols.length : Int) + (pre (projV x0 x1).1.rows (projV x0 x1).1.rows.length : Int) from rfl)]
theorem law_ProjectTable {G : GH} {v0 v1 : Value} {x0 : Tab} {x1 : List Int} (h0 : TableV G v0 x0) (h1 : IntsV G v1 x1) : GC Try.prog 5 [v0, v1] G fun v _ => v = .bool true := by
  refine c_laws_FnExactProjectTable_i (by simp) ?_
  refine pj_head h0 h1 fun T H b2 A0 B0 W c0 d0 w hs0 e1 e2 p2 hw l0 m0 u0 l1 => ?_
  refine pj_mid e1 e2 p2 hw l0 m0 u0 l1 fun T' G6 G9 C0 C b6 b10 Xw Yw Xg Yg xw yw xg yg kw kg f1 f2 f6 f7 f10 f11 s6 pw s9 bg sG sg => ?_
  exact pj_tail p2 hw l0 m0 l1 f1 f2 f6 f7 f10 f11 s6 pw s9 bg sG sg

end Go.Proofs.Ytanpmilodaejpaa.Gh
