/- What the functions that the law FirstDisagreement reaches return, and the law; it stands under no condition. -/
import Derived.Test.YtanpmilodaejpaaYFirstDisagreementb
import Derived.Shelf.SlSortCmp.NoneTotal
import Derived.Lib.QuietBelow
namespace Go.Proofs.Ytanpmilodaejpaa.Gh
open Go Go.RowKit Go.Proofs
set_option linter.unusedVariables false
set_option linter.unusedSimpArgs false
set_option maxHeartbeats 4000000

theorem PutI.fin {G G' : GH} {Z Z0 : Option Addr} {z z0 : Nat} {hs : Nat → Option Addr × Nat} {xss : List (List Int)} {x : List Int} {E : List (Value × List Int)} (h : PutI G G' Z z hs xss x E) (ho : OwnR G Z0 z0 hs xss) (ha : Asc (E.map (·.2))) :
    ∃ hs', OwnR G' Z z hs' (E.map (·.2)) ∧ ∀ p, p < E.length → (∃ i, i < xss.length ∧ hs' p = hs i) ∨ Off G (hs' p).1 := by
  have hg : ∀ p, p < E.length → ∃ e, E[p]? = some e ∧ e ∈ E := fun p hp => ⟨E[p], List.getElem?_eq_getElem hp, List.getElem_mem hp⟩
  have hc : ∀ p, p < E.length → ∃ e, E[p]? = some e ∧ (E.map (·.2)).getD p [] = e.2 ∧ VB (E.getD p (.bool false, [])).1 = VB e.1 ∧ ((∃ i, i < xss.length ∧ e = old hs xss i) ∨ ∃ D d, e = (.slice D x.length d, x) ∧ Off G D ∧ Own (wz G' Z) D d (x.map I64) 1 x.length) := fun p hp => by
    obtain ⟨e, he, hm⟩ := hg p hp
    exact ⟨e, he, by rw [List.getD, List.getElem?_map, he]; rfl, by rw [List.getD, he]; rfl, h.ent e hm⟩
  refine ⟨fun p => VB (E.getD p (.bool false, [])).1, ⟨h.own.cast ?_ (by simp), fun p hp => ?_, fun p hp => ?_, fun p q hp hq hpq => ?_⟩, fun p hp => ?_⟩
  · apply List.ext_getElem?
    intro p
    rw [List.length_map, List.getElem?_map, List.getElem?_map]
    by_cases hp : p < E.length
    · obtain ⟨e, h1, h2, h3, h4⟩ := hc p hp
      rw [h1, List.getElem?_range hp, Option.map_some, Option.map_some, h2, h3]
      rcases h4 with ⟨i, _, rfl⟩ | ⟨D, d, rfl, _⟩ <;> rfl
    · rw [List.getElem?_eq_none (by omega), List.getElem?_eq_none (by simpa using hp)]; rfl
  · rw [List.length_map] at hp
    obtain ⟨e, h1, h2, h3, h4⟩ := hc p hp
    rw [h2, h3]
    rcases h4 with ⟨i, hi, rfl⟩ | ⟨D, d, rfl, _, hw⟩
    · exact (ho.row i hi).sub h.sub
    · exact hw.sub (Sub.wz _ _)
  · rw [List.length_map] at hp
    obtain ⟨e, h1, h2, h3, h4⟩ := hc p hp
    rw [h3]
    intro a b hA hB q
    rcases h4 with ⟨i, hi, rfl⟩ | ⟨D, d, rfl, _, hw⟩
    · have k1 := own_ne (ho.row i hi) a hA
      have k2 := h.off b hB
      rw [← q] at k2; exact k1 k2
    · have k1 := own_ne hw a hA
      have k2 := Off.wz G' Z b hB
      rw [← q] at k2; exact k1 k2
  · rw [List.length_map] at hp hq
    obtain ⟨e, h1, h2, h3, h4⟩ := hc p hp
    obtain ⟨f, k1, k2, k3, k4⟩ := hc q hq
    rw [h3, k3]
    have hne : e.2 ≠ f.2 := fun y => by
      have hP := List.pairwise_iff_getElem.1 ha
      have gp : (E.map (·.2)).getD p [] = (E.map (·.2))[p]'(by simpa using hp) := by simp [List.getD, hp]
      have gq : (E.map (·.2)).getD q [] = (E.map (·.2))[q]'(by simpa using hq) := by simp [List.getD, hq]
      rw [← h2, ← k2, gp, gq] at y
      rcases Nat.lt_or_gt_of_ne hpq with k | k
      · have := hP p q (by simpa using hp) (by simpa using hq) k; rw [y, lexC_self] at this; omega
      · have := hP q p (by simpa using hq) (by simpa using hp) k; rw [y, lexC_self] at this; omega
    intro a b hA hB r
    rcases h4 with ⟨i, hi, rfl⟩ | ⟨D, d, rfl, oD, hw⟩ <;> rcases k4 with ⟨j, hj, rfl⟩ | ⟨D', d', rfl, oD', hw'⟩
    · exact ho.inj i j hi hj (fun y => hne (by rw [y])) a b hA hB r
    · have := own_ne (ho.row i hi) a hA
      rw [r, oD' b hB] at this; exact this rfl
    · have := own_ne (ho.row j hj) b hB
      rw [← r, oD a hA] at this; exact this rfl
    · exact hne rfl
  · obtain ⟨e, h1, h2, h3, h4⟩ := hc p hp
    show (∃ i, i < xss.length ∧ VB (E.getD p (.bool false, [])).1 = hs i) ∨ Off G (VB (E.getD p (.bool false, [])).1).1
    rw [h3]
    rcases h4 with ⟨i, hi, rfl⟩ | ⟨D, d, rfl, oD, hw⟩
    · exact .inl ⟨i, hi, rfl⟩
    · exact .inr oD
theorem dropL {xss : List (List Int)} {k : Nat} (h : k < xss.length) : xss.drop k = xss.getD k [] :: xss.drop (k + 1) := by
  rw [List.drop_eq_getElem_cons h]; simp [List.getD, h]
theorem takeL {xss : List (List Int)} {k : Nat} (h : k < xss.length) : xss.take (k + 1) = xss.take k ++ [xss.getD k []] := by
  rw [List.take_succ_eq_append_getElem h]; simp [List.getD, h]
theorem spec_l20Put_ok {G : GH} {Z D : Option Addr} {z e : Nat} {hs : Nat → Option Addr × Nat} {xss : List (List Int)} {x : List Int} (h : OwnR G Z z hs xss) (ha : Asc xss) (hx : IntS G D e x) (hl : xss.length < 2 ^ 20) (hl2 : ∀ i, i < xss.length → (xss.getD i []).length < 2 ^ 30) (hxl : x.length < 2 ^ 30) {K : Value → GH → Prop}
    (hk : ∀ G' Z' z' hs', Sub G G' → OwnR G' Z' z' hs' (ins x xss) → Off G Z' → (∀ p, p < (ins x xss).length → (∃ i, i < xss.length ∧ hs' p = hs i) ∨ Off G (hs' p).1) → K (.slice Z' (ins x xss).length z') G') : GC Try.prog 60 [.slice Z xss.length z, .slice D x.length e] G K := by
  refine c_spec_l20Put_i (by simp) ?_
  have hR := h.rows
  simp (maxSteps := 300000) (disch := omega) only [gs, gs2, gs3, gs4, ↓reduceIte, Nat.reduceEqDiff, Int.reduceToNat, Nat.reduceMul, Nat.reduceAdd, Nat.reduceBEq, isLd, gBs]
  refine ⟨fun v hv => (by cases hv), fun bz hbz => ?_⟩
  refine gLoop_intro (fun m T G' => ∃ (k : Nat) (Zo : Option Addr) (zo : Nat) (E : List (Value × List Int)) (dn : Bool), T 0 = .slice Z xss.length z ∧ T 1 = .slice D x.length e ∧ T 5 = .slice Zo E.length zo ∧ T 6 = .bool dn ∧ T 7 = .int .i64 k ∧ m + k = xss.length ∧ k ≤ xss.length ∧ E.length ≤ k + 1 ∧ PutI G G' Zo zo hs xss x E ∧
      (dn = false → E.map (·.2) = xss.take k ∧ ins x xss = xss.take k ++ ins x (xss.drop k)) ∧ (dn = true → E.map (·.2) ++ xss.drop k = ins x xss)) xss.length
    ⟨0, some ⟨bz, 0, none⟩, 0, [], false, by simp (maxSteps := 300000) (disch := omega) only [gs, gs2, gs3, gs4, ↓reduceIte, Nat.reduceEqDiff, Int.reduceToNat, Nat.reduceMul, Nat.reduceAdd, Nat.reduceBEq, isLd], by simp (maxSteps := 300000) (disch := omega) only [gs, gs2, gs3, gs4, ↓reduceIte, Nat.reduceEqDiff, Int.reduceToNat, Nat.reduceMul, Nat.reduceAdd, Nat.reduceBEq, isLd], by simp (maxSteps := 300000) (disch := omega) only [gs, gs2, gs3, gs4, ↓reduceIte, Nat.reduceEqDiff, Int.reduceToNat, Nat.reduceMul, Nat.reduceAdd, Nat.reduceBEq, isLd] <;> rfl, by simp (maxSteps := 300000) (disch := omega) only [gs, gs2, gs3, gs4, ↓reduceIte, Nat.reduceEqDiff, Int.reduceToNat, Nat.reduceMul, Nat.reduceAdd, Nat.reduceBEq, isLd], by simp (maxSteps := 300000) (disch := omega) only [gs, gs2, gs3, gs4, ↓reduceIte, Nat.reduceEqDiff, Int.reduceToNat, Nat.reduceMul, Nat.reduceAdd, Nat.reduceBEq, isLd] <;> rfl, by omega, by omega, by simp, ⟨Sub.put hbz _, fun a ha => by cases ha; exact hbz, Own.blk (put_same _ _ _) rfl, fun e he => by cases he⟩, fun _ => by simp, fun y => by cases y⟩ ?_
  rintro m T G' ⟨k, Zo, zo, E, dn, t0, t1, t5, t6, t7, hm, hkl, hEl, hP, hF, hT⟩
  simp (maxSteps := 300000) (disch := omega) only [gs, gs2, gs3, gs4, ↓reduceIte, Nat.reduceEqDiff, Int.reduceToNat, Nat.reduceMul, Nat.reduceAdd, Nat.reduceBEq, isLd, t0, t1, t5, t6, t7]
  have hsn := hR.sn
  by_cases hkk : (k : Int) < xss.length
  · have rk : ∀ {G' : GH}, Sub G G' → rd G' (pa Z k) = some (.slice (hs k).1 (xss.getD k []).length (hs k).2) := fun s => rd_sub s (hR.r k (by omega))
    have hsk := hsn (by omega)
    have hd := dropL (show k < xss.length by omega)
    have ht := takeL (show k < xss.length by omega)
    simp (maxSteps := 300000) (disch := omega) only [gs, gs2, gs3, gs4, ↓reduceIte, Nat.reduceEqDiff, Int.reduceToNat, Nat.reduceMul, Nat.reduceAdd, Nat.reduceBEq, isLd, t0, t1, t5, t6, t7, hkk, rk hP.sub]
    refine spec_l00Same_ok ((hR.row k (by omega)).sub hP.sub) (hx.sub hP.sub) (by have := hl2 k (by omega); omega) ?_
    by_cases hq : xss.getD k [] = x
    · have hqT : (xss.getD k [] = x) = True := eq_true hq
      simp (maxSteps := 300000) (disch := omega) only [gs, gs2, gs3, gs4, ↓reduceIte, Nat.reduceEqDiff, Int.reduceToNat, Nat.reduceMul, Nat.reduceAdd, Nat.reduceBEq, isLd, t0, t1, t5, t6, t7, hkk, rk hP.sub, hqT, gBs]
      refine ⟨fun v hv => (by simp at hv; subst hv; rfl), fun bs hbs => ?_⟩
      refine PutI.push (e := old hs xss k) (hP.up (Sub.put hbs _)) (.inl ⟨k, by omega, rfl⟩) (put_same _ _ _) (by omega) fun G4 Z4 z4 hP4 => ?_
      simp (maxSteps := 300000) (disch := omega) only [gs, gs2, gs3, gs4, ↓reduceIte, Nat.reduceEqDiff, Int.reduceToNat, Nat.reduceMul, Nat.reduceAdd, Nat.reduceBEq, isLd, t0, t1, t5, t6, t7]
      refine ⟨m - 1, by omega, G4, Sub.refl _, k + 1, Z4, z4, E ++ [old hs xss k], true, by simp, rfl, rfl, by omega, by omega, by simp; omega, hP4, fun y => (by cases y), fun _ => ?_⟩
      rw [List.map_append]
      show E.map (·.2) ++ [xss.getD k []] ++ _ = _
      rw [List.append_assoc, List.singleton_append, ← hd]
      cases dn
      · obtain ⟨hF1, hF2⟩ := hF rfl
        rw [hF1, hF2, hd, hq, ins, if_pos (lexC_self x)]
      · exact hT rfl
    · have hqF : (xss.getD k [] = x) = False := eq_false hq
      cases dn
      · obtain ⟨hF1, hF2⟩ := hF rfl
        simp (maxSteps := 300000) (disch := omega) only [gs, gs2, gs3, gs4, ↓reduceIte, Nat.reduceEqDiff, Int.reduceToNat, Nat.reduceMul, Nat.reduceAdd, Nat.reduceBEq, isLd, t0, t1, t5, t6, t7, hkk, rk hP.sub, hqF, gBs]
        refine spec_l16Before_ok (hx.sub hP.sub) ((hR.row k (by omega)).sub hP.sub) (by omega) (by have := hl2 k (by omega); omega) fun w hw => ?_
        cases w
        · simp (maxSteps := 300000) (disch := omega) only [gs, gs2, gs3, gs4, ↓reduceIte, Nat.reduceEqDiff, Int.reduceToNat, Nat.reduceMul, Nat.reduceAdd, Nat.reduceBEq, isLd, t0, t1, t5, t6, t7, hkk, rk hP.sub, gBs]
          refine ⟨fun v hv => (by simp at hv; subst hv; rfl), fun bs hbs => ?_⟩
          refine PutI.push (e := old hs xss k) (hP.up (Sub.put hbs _)) (.inl ⟨k, by omega, rfl⟩) (put_same _ _ _) (by omega) fun G4 Z4 z4 hP4 => ?_
          simp (maxSteps := 300000) (disch := omega) only [gs, gs2, gs3, gs4, ↓reduceIte, Nat.reduceEqDiff, Int.reduceToNat, Nat.reduceMul, Nat.reduceAdd, Nat.reduceBEq, isLd, t0, t1, t5, t6, t7]
          refine ⟨m - 1, by omega, G4, Sub.refl _, k + 1, Z4, z4, E ++ [old hs xss k], false, by simp, rfl, rfl, by omega, by omega, by simp; omega, hP4, fun _ => ⟨?_, ?_⟩, fun y => (by cases y)⟩
          · rw [List.map_append, hF1, ht]; rfl
          · have hn : ¬ lexC x (xss.getD k []) < 0 := fun y => by have := hw.2 y; cases this
            have hz : ¬ lexC x (xss.getD k []) = 0 := fun y => hq (lexC_zero.1 y).symm
            rw [hF2, hd, ins, if_neg hz, if_neg hn, ht, List.append_assoc]; rfl
        · have hlt := hw.1 rfl
          simp (maxSteps := 300000) (disch := omega) only [gs, gs2, gs3, gs4, ↓reduceIte, Nat.reduceEqDiff, Int.reduceToNat, Nat.reduceMul, Nat.reduceAdd, Nat.reduceBEq, isLd, t0, t1, t5, t6, t7, hkk, rk hP.sub]
          refine spec_l00Own_ok (hx.sub hP.sub) hxl fun G5 D5 d5 hN => ?_
          have hDo : ∀ x, D5 = some x → G' x.block = none := hN.off
          simp (maxSteps := 300000) (disch := omega) only [gs, gs2, gs3, gs4, ↓reduceIte, Nat.reduceEqDiff, Int.reduceToNat, Nat.reduceMul, Nat.reduceAdd, Nat.reduceBEq, isLd, t0, t1, t5, t6, t7, gBs]
          refine ⟨fun v hv => (by simp at hv; subst hv; rfl), fun bs hbs => ?_⟩
          have s9 := Sub.put hbs ⟨[.slice D5 x.length d5], true⟩
          refine PutI.push (e := (.slice D5 x.length d5, x)) (hP.up (hN.sub.trans s9)) (.inr ⟨D5, d5, rfl, hN.off.mono hP.sub, hN.fresh.sub s9, fun a b ha hb q => ?_⟩) (put_same _ _ _) (by omega) fun G4 Z4 z4 hP4 => ?_
          · have := own_ne hP.own b hb
            rw [← q, hDo a ha] at this; exact this rfl
          simp (maxSteps := 300000) (disch := omega) only [gs, gs2, gs3, gs4, ↓reduceIte, Nat.reduceEqDiff, Int.reduceToNat, Nat.reduceMul, Nat.reduceAdd, Nat.reduceBEq, isLd, t0, t1, t5, t6, t7, rk hP4.sub, gBs]
          refine ⟨fun v hv => (by simp at hv; subst hv; rfl), fun bs hbs => ?_⟩
          rw [show E.length + 1 = (E ++ [(Value.slice D5 x.length d5, x)]).length by simp]
          refine PutI.push (e := old hs xss k) (hP4.up (Sub.put hbs _)) (.inl ⟨k, by omega, rfl⟩) (put_same _ _ _) (by simp; omega) fun G6 Z6 z6 hP6 => ?_
          simp (maxSteps := 300000) (disch := omega) only [gs, gs2, gs3, gs4, ↓reduceIte, Nat.reduceEqDiff, Int.reduceToNat, Nat.reduceMul, Nat.reduceAdd, Nat.reduceBEq, isLd, t0, t1, t5, t6, t7]
          refine ⟨m - 1, by omega, G6, Sub.refl _, k + 1, Z6, z6, (E ++ [(Value.slice D5 x.length d5, x)]) ++ [old hs xss k], true, by simp, rfl, rfl, by omega, by omega, ?_, hP6, fun y => (by cases y), fun _ => ?_⟩
          · have : E.length = k := by rw [← List.length_map (f := (·.2)), hF1, List.length_take]; omega
            simp; omega
          · have hz : ¬ lexC x (xss.getD k []) = 0 := fun y => hq (lexC_zero.1 y).symm
            rw [List.map_append, List.map_append, hF1, hF2, hd, ins, if_neg hz, if_pos hlt]
            simp [old]
      · simp (maxSteps := 300000) (disch := omega) only [gs, gs2, gs3, gs4, ↓reduceIte, Nat.reduceEqDiff, Int.reduceToNat, Nat.reduceMul, Nat.reduceAdd, Nat.reduceBEq, isLd, t0, t1, t5, t6, t7, hkk, rk hP.sub, hqF, gBs]
        refine ⟨fun v hv => (by simp at hv; subst hv; rfl), fun bs hbs => ?_⟩
        refine PutI.push (e := old hs xss k) (hP.up (Sub.put hbs _)) (.inl ⟨k, by omega, rfl⟩) (put_same _ _ _) (by omega) fun G4 Z4 z4 hP4 => ?_
        simp (maxSteps := 300000) (disch := omega) only [gs, gs2, gs3, gs4, ↓reduceIte, Nat.reduceEqDiff, Int.reduceToNat, Nat.reduceMul, Nat.reduceAdd, Nat.reduceBEq, isLd, t0, t1, t5, t6, t7]
        refine ⟨m - 1, by omega, G4, Sub.refl _, k + 1, Z4, z4, E ++ [old hs xss k], true, by simp, rfl, rfl, by omega, by omega, by simp; omega, hP4, fun y => (by cases y), fun _ => ?_⟩
        rw [List.map_append]
        show E.map (·.2) ++ [xss.getD k []] ++ _ = _
        rw [List.append_assoc, List.singleton_append, ← hd]
        exact hT rfl
  · obtain rfl : k = xss.length := by omega
    rw [List.take_length, List.drop_length] at hF
    rw [List.drop_length, List.append_nil] at hT
    cases dn
    · obtain ⟨hF1, hF2⟩ := hF rfl
      simp (maxSteps := 300000) (disch := omega) only [gs, gs2, gs3, gs4, ↓reduceIte, Nat.reduceEqDiff, Int.reduceToNat, Nat.reduceMul, Nat.reduceAdd, Nat.reduceBEq, isLd, t0, t1, t5, t6, t7, hkk]
      refine spec_l00Own_ok (hx.sub hP.sub) hxl fun G5 D5 d5 hN => ?_
      have hDo : ∀ x, D5 = some x → G' x.block = none := hN.off
      simp (maxSteps := 300000) (disch := omega) only [gs, gs2, gs3, gs4, ↓reduceIte, Nat.reduceEqDiff, Int.reduceToNat, Nat.reduceMul, Nat.reduceAdd, Nat.reduceBEq, isLd, t0, t1, t5, t6, t7, gBs]
      refine ⟨fun v hv => (by simp at hv; subst hv; rfl), fun bs hbs => ?_⟩
      have s9 := Sub.put hbs ⟨[.slice D5 x.length d5], true⟩
      refine PutI.push (e := (.slice D5 x.length d5, x)) (hP.up (hN.sub.trans s9)) (.inr ⟨D5, d5, rfl, hN.off.mono hP.sub, hN.fresh.sub s9, fun a b ha hb q => ?_⟩) (put_same _ _ _) (by omega) fun G4 Z4 z4 hP4 => ?_
      · have := own_ne hP.own b hb
        rw [← q, hDo a ha] at this; exact this rfl
      simp (maxSteps := 300000) (disch := omega) only [gs, gs2, gs3, gs4, ↓reduceIte, Nat.reduceEqDiff, Int.reduceToNat, Nat.reduceMul, Nat.reduceAdd, Nat.reduceBEq, isLd, t0, t1, t5, t6, t7]
      have hE : (E ++ [(Value.slice D5 x.length d5, x)]).map (·.2) = ins x xss := by
        rw [List.map_append, hF1, hF2]; rfl
      obtain ⟨hs', ho', hh⟩ := hP4.fin h (by rw [hE]; exact asc_ins ha)
      have hlen : (E ++ [(Value.slice D5 x.length d5, x)]).length = (ins x xss).length := by rw [← hE, List.length_map]
      rw [hE] at ho'
      rw [show E.length + 1 = (ins x xss).length by rw [← hlen]; simp]
      exact hk G4 Z4 z4 hs' hP4.sub ho' hP4.off fun p hp => hh p (by omega)
    · have hT := hT rfl
      simp (maxSteps := 300000) (disch := omega) only [gs, gs2, gs3, gs4, ↓reduceIte, Nat.reduceEqDiff, Int.reduceToNat, Nat.reduceMul, Nat.reduceAdd, Nat.reduceBEq, isLd, t0, t1, t5, t6, t7, hkk]
      obtain ⟨hs', ho', hh⟩ := hP.fin h (by rw [hT]; exact asc_ins ha)
      have hlen : E.length = (ins x xss).length := by rw [← hT, List.length_map]
      rw [hT] at ho'
      rw [hlen]
      exact hk G' Zo zo hs' hP.sub ho' hP.off fun p hp => hh p (by omega)
theorem NewT.offs {G G' : GH} {N : Tab} {A B : Option Addr} {c d : Nat} {hs : Nat → Option Addr × Nat} (h : NewT G G' N A c B d hs) : Off G A ∧ Off G B ∧ ∀ i, i < N.rows.length → Off G (hs i).1 :=
  ⟨fun a ha => h.off _ (.inl ⟨a, ha, rfl⟩), fun a ha => h.off _ (.inr (.inl ⟨a, ha, rfl⟩)), fun i hi a ha => h.off _ (.inr (.inr ⟨i, hi, a, ha, rfl⟩))⟩
theorem NewT.low {G G1 G' G'' : GH} {N : Tab} {A B : Option Addr} {c d : Nat} {hs : Nat → Option Addr × Nat} (h : NewT G1 G' N A c B d hs) (s : Sub G G1) (s'' : Sub G G'') {S : Nat → Prop} (u : Oth S G' G'') (uS : ∀ x, S x → G1 x ≠ none) : NewT G G'' N A c B d hs := by
  obtain ⟨oA, oB, oR⟩ := h.offs
  have hw := h.own.sub (Sub.rest _ _)
  have nS : ∀ {A : Option Addr}, Off G1 A → ∀ a, A = some a → ¬ S a.block := fun o a ha y => uS _ y (o a ha)
  exact ⟨s'', ⟨(hw.cols.oth u (nS oA)).rest (oA.mono s), (hw.rows.oth u (nS oB) fun i hi => nS (oR i hi)).rest (oB.mono s) fun i hi => (oR i hi).mono s, hw.nB, hw.nR⟩⟩
theorem NewT.nil (G : GH) (hs : Nat → Option Addr × Nat) : NewT G G ⟨[], []⟩ none 0 none 0 hs := ⟨Sub.refl _, ⟨Own.nil _ _, OwnR.nil _ _, fun a b h => (by cases h), fun i hi => (by simp at hi)⟩⟩
theorem TabOk.rowL {t : Tab} (h : TabOk t) : RowL t ∧ t.cols.length ≤ 8 ∧ t.rows.length ≤ 24 := by
  refine ⟨fun i hi => (h.2.2.2.1 i hi).1, ?_, h.2.2.1⟩
  apply Classical.byContradiction; intro c
  have hge : ∀ i, i < t.cols.length → (i : Int) ≤ t.cols.getD i 0 := by
    intro i
    induction i with
    | zero => intro hi; exact (h.2.1 0 hi).1
    | succ i ih => intro hi; have := ih (by omega); have := h.1 i hi; omega
  have := hge 8 (by omega)
  have := (h.2.1 8 (by omega)).2
  omega
theorem spec_l20Cell_ok {G : GH} {A B : Option Addr} {c d : Nat} {cols row : List Int} {v : Int} (h : IntS G A c cols) (h' : IntS G B d row) (hlen : row.length = cols.length) (hl : cols.length < 2 ^ 40) {K : Value → GH → Prop}
    (hk : ∀ w : Int, (v ∈ cols → w = cellAt cols row v) → (¬ v ∈ cols → w = -1) → K (.int .i64 w) G) : GC Try.prog 59 [.slice A cols.length c, .slice B row.length d, .int .i64 v] G K := by
  refine c_spec_l20Cell_i (by simp) ?_
  have hsn := h.sn
  have hrd := h.rd
  have hsr := h'.sn
  simp (maxSteps := 300000) (disch := omega) only [gs, gs2, gs3, gs4, ↓reduceIte, Nat.reduceEqDiff, Int.reduceToNat, Nat.reduceMul, Nat.reduceAdd, Nat.reduceBEq, isLd]
  refine gLoop_intro (fun m T G' => ∃ k : Nat, T 0 = .slice A cols.length c ∧ T 1 = .slice B row.length d ∧ T 2 = .int .i64 v ∧ T 7 = .int .i64 k ∧ m + k = cols.length ∧ k ≤ cols.length ∧ G' = G ∧ ∀ i, i < k → cols.getD i 0 ≠ v) cols.length
    ⟨0, by simp (maxSteps := 300000) (disch := omega) only [gs, gs2, gs3, gs4, ↓reduceIte, Nat.reduceEqDiff, Int.reduceToNat, Nat.reduceMul, Nat.reduceAdd, Nat.reduceBEq, isLd], by simp (maxSteps := 300000) (disch := omega) only [gs, gs2, gs3, gs4, ↓reduceIte, Nat.reduceEqDiff, Int.reduceToNat, Nat.reduceMul, Nat.reduceAdd, Nat.reduceBEq, isLd], by simp (maxSteps := 300000) (disch := omega) only [gs, gs2, gs3, gs4, ↓reduceIte, Nat.reduceEqDiff, Int.reduceToNat, Nat.reduceMul, Nat.reduceAdd, Nat.reduceBEq, isLd], by simp (maxSteps := 300000) (disch := omega) only [gs, gs2, gs3, gs4, ↓reduceIte, Nat.reduceEqDiff, Int.reduceToNat, Nat.reduceMul, Nat.reduceAdd, Nat.reduceBEq, isLd] <;> rfl, by omega, by omega, rfl, fun i hi => by omega⟩ ?_
  rintro m T G' ⟨k, e0, e1, e2, e7, hm, hkl, rfl, hin⟩
  simp (maxSteps := 300000) (disch := omega) only [gs, gs2, gs3, gs4, ↓reduceIte, Nat.reduceEqDiff, Int.reduceToNat, Nat.reduceMul, Nat.reduceAdd, Nat.reduceBEq, isLd, e0, e1, e2, e7]
  by_cases hkk : (k : Int) < cols.length
  · have rr := h'.rd k (by omega)
    have hkr : (k : Int) < row.length := by omega
    simp (maxSteps := 300000) (disch := omega) only [gs, gs2, gs3, gs4, ↓reduceIte, Nat.reduceEqDiff, Int.reduceToNat, Nat.reduceMul, Nat.reduceAdd, Nat.reduceBEq, isLd, e0, e1, e2, e7, hkk, hrd]
    by_cases g1 : cols.getD k 0 = v
    · have hsr := hsr (by omega)
      simp (maxSteps := 300000) (disch := omega) only [gs, gs2, gs3, gs4, ↓reduceIte, Nat.reduceEqDiff, Int.reduceToNat, Nat.reduceMul, Nat.reduceAdd, Nat.reduceBEq, isLd, eq_true g1, e0, e1, e2, e7, hkr, rr]
      have hmem : v ∈ cols := by rw [← g1]; simp [List.getD, show k < cols.length by omega]
      refine hk _ (fun _ => ?_) (fun hn => absurd hmem hn)
      unfold cellAt
      have : cols.idxOf v = k := by
        obtain ⟨hid, hlt⟩ := idxI_mem' hmem
        have := idxI_some (p := fun x => decide (x = v)) (xs := cols) (k := k) (by omega) (decide_eq_true g1) fun i hi => decide_eq_false (hin i hi)
        rw [hid] at this; omega
      rw [this]
    · simp (maxSteps := 300000) (disch := omega) only [gs, gs2, gs3, gs4, ↓reduceIte, Nat.reduceEqDiff, Int.reduceToNat, Nat.reduceMul, Nat.reduceAdd, Nat.reduceBEq, isLd, eq_false g1, e0, e1, e2, e7]
      refine ⟨m - 1, by omega, _, Sub.refl _, k + 1, rfl, by omega, by omega, rfl, fun i hi => ?_⟩
      by_cases hik : i = k
      · subst hik; exact g1
      · exact hin i (by omega)
  · simp (maxSteps := 300000) (disch := omega) only [gs, gs2, gs3, gs4, ↓reduceIte, Nat.reduceEqDiff, Int.reduceToNat, Nat.reduceMul, Nat.reduceAdd, Nat.reduceBEq, isLd, e0, e1, e2, e7, hkk]
    refine hk _ (fun hm' => ?_) (fun _ => rfl)
    obtain ⟨i, hi, rfl⟩ := List.mem_iff_getElem.1 hm'
    exact absurd (by simp [List.getD, hi]) (hin i (by omega))
theorem getD_memL {α : Type} {l : List α} {i : Nat} {d : α} (h : i < l.length) : l.getD i d ∈ l := by simp [List.getD, h]
theorem SemG.repl {H G G' : GH} {b5 n c1 z z' : Nat} {A1 Z Z' : Option Addr} {hs hs' : Nat → Option Addr × Nat} {xss yss : List (List Int)} (h : SemG H G b5 A1 n c1 Z z hs xss) (s : Sub G G') (ho : OwnR G' Z' z' hs' yss) (oZ : Off G Z')
    (oR : ∀ i, i < yss.length → (∃ j, j < xss.length ∧ hs' i = hs j) ∨ Off G (hs' i).1) {K : Value → GH → Prop} (hK : ∀ G5, SemG H G5 b5 A1 n c1 Z' z' hs' yss → K undef G5) : gSt 1 (.pointer (some ⟨b5, 1, none⟩)) (.slice Z' yss.length z') G' K := by
  have s5 := h.sub.trans s
  have hbox : G' b5 = some ⟨[.slice A1 n c1, .slice Z xss.length z], true⟩ := s5 _ _ (put_same _ _ _)
  have oZ' : Off (put H b5 ⟨[], true⟩) Z' := (oZ.mono h.sub).pute
  have oR' : ∀ i, i < yss.length → Off (put H b5 ⟨[], true⟩) (hs' i).1 := fun i hi => by
    rcases oR i hi with ⟨j, hj', e⟩ | o
    · rw [e]; exact h.oR j hj'
    · exact (o.mono h.sub).pute
  refine st_one hbox (by simp) rfl (hK _ ⟨h.nb, fun y f hy => ?_, ho.oth (Oth.put _ _ _) (oZ'.ne) fun i hi a ha => (oR' i hi).ne a ha, oZ', oR'⟩)
  by_cases c : y = b5
  · subst c
    rw [put_same] at hy ⊢
    rw [← hy]; rfl
  · rw [put_ne _ _ c] at hy ⊢
    exact s5 _ _ (by rw [put_ne _ _ c]; exact hy)
theorem spec_l20Project_ok {G : GH} {q : Option Addr} {t : Tab} {A B W : Option Addr} {c d w : Nat} {hs : Nat → Option Addr × Nat} {wanted : List Int} (p2 : TabP G q t A c B d hs) (hw : IntS G W w wanted) (hmem : ∀ v ∈ wanted, v ∈ t.cols) (hl : t.cols.length < 2 ^ 30) (hl2 : wanted.length < 2 ^ 30) (rt : RowL t) (nt : t.rows.length < 2 ^ 18)
    {K : Value → GH → Prop} (hk : ∀ G' X x Y y hs'', NewT G G' (projT t wanted) X x Y y hs'' → K (tabV (projT t wanted) X x Y y) G') : GC Try.prog 32 [.pointer q, .slice W wanted.length w] G K := by
  refine GC_drop (c_spec_l20Project_i (by simp) ?_)
  have hq := rd_some p2.f0
  simp (maxSteps := 300000) (disch := omega) only [gs, gs2, gs3, gs4, ↓reduceIte, Nat.reduceEqDiff, Int.reduceToNat, Nat.reduceMul, Nat.reduceAdd, Nat.reduceBEq, isLd]
  intro b4 hb4
  have s4 := Sub.put hb4 ⟨[.slice none 0 0, .slice none 0 0], true⟩
  have g4 := put_same G b4 ⟨[.slice none 0 0, .slice none 0 0], true⟩
  have p2 := p2.sub s4
  have hw := hw.sub s4
  revert s4 p2 hw g4
  generalize put G b4 ⟨[.slice none 0 0, .slice none 0 0], true⟩ = G2
  intro s4 g4 p2 hw
  simp (maxSteps := 300000) (disch := omega) only [gs, gs2, gs3, gs4, ↓reduceIte, Nat.reduceEqDiff, Int.reduceToNat, Nat.reduceMul, Nat.reduceAdd, Nat.reduceBEq, isLd, p2.f0]
  refine spec_l00Own_ok hw (by omega) fun H A1 c1 hN1 => ?_
  have p2 := p2.sub hN1.sub
  have hw := hw.sub hN1.sub
  have g4' := hN1.sub _ _ g4
  simp (maxSteps := 300000) (disch := omega) only [gs, gs2, gs3, gs4, ↓reduceIte, Nat.reduceEqDiff, Int.reduceToNat, Nat.reduceMul, Nat.reduceAdd, Nat.reduceBEq, isLd, p2.f0, gBs]
  refine ⟨fun v hv => (by cases hv), fun bz hbz => ?_⟩
  have hbl : bldV [Value.slice none 0 0, Value.slice none 0 0] [(0, 1, Value.slice A1 wanted.length c1), (1, 1, Value.slice (some ⟨bz, 0, none⟩) 0 0)] = some [Value.slice A1 wanted.length c1, .slice (some ⟨bz, 0, none⟩) 0 0] := rfl
  simp (maxSteps := 300000) (disch := omega) only [gs, gs2, gs3, gs4, ↓reduceIte, Nat.reduceEqDiff, Int.reduceToNat, Nat.reduceMul, Nat.reduceAdd, Nat.reduceBEq, isLd, hbl]
  intro b5 hb5
  simp (maxSteps := 300000) (disch := omega) only [gs, gs2, gs3, gs4, ↓reduceIte, Nat.reduceEqDiff, Int.reduceToNat, Nat.reduceMul, Nat.reduceAdd, Nat.reduceBEq, isLd]
  refine st_fresh (vs := [.slice A1 wanted.length c1, .slice (some ⟨bz, 0, none⟩) 0 0]) rfl rfl rfl (by intro v hv; simp at hv; rcases hv with rfl | rfl <;> rfl) ?_
  have n5z : b5 ≠ bz := (put_none.1 hb5).1
  have hb5' : H b5 = none := (put_none.1 hb5).2
  have hX0 : SemG H (put (put H bz ⟨[], true⟩) b5 ⟨[.slice A1 wanted.length c1, .slice (some ⟨bz, 0, none⟩) 0 0], true⟩) b5 A1 wanted.length c1 (some ⟨bz, 0, none⟩) 0 (fun _ => (none, 0)) [] := by
    refine ⟨hb5', fun x e hx => ?_, ⟨.inr ⟨bz, [], rfl, by rw [put_ne _ _ n5z.symm]; exact put_same _ _ _, rfl, rfl, Nat.le_refl _⟩, fun i hi => by simp at hi, fun i hi => by simp at hi, fun i j hi => by simp at hi⟩, fun a ha => by cases ha; rw [put_ne _ _ n5z.symm]; exact hbz, fun i hi => by simp at hi⟩
    by_cases c : x = b5
    · subst c; rw [put_same] at hx ⊢; exact hx
    · rw [put_ne _ _ c] at hx ⊢
      rw [put_ne _ _ (fun y => by subst y; rw [hbz] at hx; cases hx)]; exact hx
  have hA1 : Own H A1 c1 (wanted.map I64) 1 wanted.length := hN1.fresh
  have sH := s4.trans hN1.sub
  have oA1 : Off G A1 := hN1.off.mono s4
  have n41 : ∀ x, A1 = some x → x.block ≠ b4 := fun x hx y => by have := hN1.off x hx; rw [y, g4] at this; cases this
  clear hN1 g4
  have e0 : (put (put H bz ⟨List.flatMap (fun v : Value => v.cells.toList) [], true⟩) b5 ⟨[.slice A1 wanted.length c1, .slice (some ⟨bz, 0, none⟩) 0 0], true⟩) = (put (put H bz ⟨[], true⟩) b5 ⟨[.slice A1 wanted.length c1, .slice (some ⟨bz, 0, none⟩) 0 0], true⟩) := rfl
  try rw [e0]
  generalize put (put H bz ⟨[], true⟩) b5 ⟨[.slice A1 wanted.length c1, .slice (some ⟨bz, 0, none⟩) 0 0], true⟩ = G3 at hX0 ⊢
  simp (maxSteps := 300000) (disch := omega) only [gs, gs2, gs3, gs4, ↓reduceIte, Nat.reduceEqDiff, Int.reduceToNat, Nat.reduceMul, Nat.reduceAdd, Nat.reduceBEq, isLd]
  refine gLoop_intro (fun m T G' => ∃ (k : Nat) (Z : Option Addr) (z : Nat) (hz : Nat → Option Addr × Nat), T 0 = .pointer q ∧ T 1 = .slice W wanted.length w ∧ T 4 = .pointer (some ⟨b4, 0, none⟩) ∧ T 5 = .pointer (some ⟨b5, 0, none⟩) ∧ T 6 = .int .i64 k ∧ m + k = t.rows.length ∧ k ≤ t.rows.length ∧
      SemG H G' b5 A1 wanted.length c1 Z z hz (srt ((t.rows.take k).map (prj t.cols wanted)))) t.rows.length
    ⟨0, _, 0, _, by simp (maxSteps := 300000) (disch := omega) only [gs, gs2, gs3, gs4, ↓reduceIte, Nat.reduceEqDiff, Int.reduceToNat, Nat.reduceMul, Nat.reduceAdd, Nat.reduceBEq, isLd], by simp (maxSteps := 300000) (disch := omega) only [gs, gs2, gs3, gs4, ↓reduceIte, Nat.reduceEqDiff, Int.reduceToNat, Nat.reduceMul, Nat.reduceAdd, Nat.reduceBEq, isLd], by simp (maxSteps := 300000) (disch := omega) only [gs, gs2, gs3, gs4, ↓reduceIte, Nat.reduceEqDiff, Int.reduceToNat, Nat.reduceMul, Nat.reduceAdd, Nat.reduceBEq, isLd], by simp (maxSteps := 300000) (disch := omega) only [gs, gs2, gs3, gs4, ↓reduceIte, Nat.reduceEqDiff, Int.reduceToNat, Nat.reduceMul, Nat.reduceAdd, Nat.reduceBEq, isLd], by simp (maxSteps := 300000) (disch := omega) only [gs, gs2, gs3, gs4, ↓reduceIte, Nat.reduceEqDiff, Int.reduceToNat, Nat.reduceMul, Nat.reduceAdd, Nat.reduceBEq, isLd] <;> rfl, by omega, by omega, hX0⟩ ?_
  clear hX0
  rintro m T G' ⟨k, Z, z, hz, e0, e1, e4, e5, e6, hm, hkl, hX⟩
  have q2 := p2.sub hX.low
  have hw3 := hw.sub hX.low
  simp (maxSteps := 300000) (disch := omega) only [gs, gs2, gs3, gs4, ↓reduceIte, Nat.reduceEqDiff, Int.reduceToNat, Nat.reduceMul, Nat.reduceAdd, Nat.reduceBEq, isLd, e0, e1, e4, e5, e6, q2.f1]
  have hlen : (srt ((t.rows.take k).map (prj t.cols wanted))).length ≤ k := Nat.le_trans (srt_len _) (by rw [List.length_map, List.length_take]; omega)
  by_cases hkk : (k : Int) < t.rows.length
  · have rk := q2.rows.r k (by omega)
    have hsB := q2.rows.sn (by omega)
    have hxl := rt k (by omega)
    have htk : srt ((t.rows.take (k + 1)).map (prj t.cols wanted)) = ins (prj t.cols wanted (t.rows.getD k [])) (srt ((t.rows.take k).map (prj t.cols wanted))) := by
      rw [map_take (d := []) (by omega), srt_snoc]
    simp (maxSteps := 300000) (disch := omega) only [gs, gs2, gs3, gs4, ↓reduceIte, Nat.reduceEqDiff, Int.reduceToNat, Nat.reduceMul, Nat.reduceAdd, Nat.reduceBEq, isLd, e0, e1, e4, e5, e6, q2.f1, hkk, gBs]
    refine ⟨fun v hv => (by cases hv), fun by' hby => ?_⟩
    refine gLoop_intro (fun m' T' G'' => ∃ (j : Nat) (Zr : Option Addr) (zr : Nat), T' 0 = .pointer q ∧ T' 1 = .slice W wanted.length w ∧ T' 4 = .pointer (some ⟨b4, 0, none⟩) ∧ T' 5 = .pointer (some ⟨b5, 0, none⟩) ∧ T' 6 = .int .i64 k ∧ T' 7 = .slice Zr j zr ∧ T' 8 = .int .i64 j ∧ m' + j = wanted.length ∧ j ≤ wanted.length ∧ Sub G' G'' ∧ Off G' Zr ∧ Own G'' Zr zr (((wanted.take j).map (cellAt t.cols (t.rows.getD k []))).map I64) 1 j) wanted.length
      ⟨0, some ⟨by', 0, none⟩, 0, by simp (maxSteps := 300000) (disch := omega) only [gs, gs2, gs3, gs4, ↓reduceIte, Nat.reduceEqDiff, Int.reduceToNat, Nat.reduceMul, Nat.reduceAdd, Nat.reduceBEq, isLd, e0], by simp (maxSteps := 300000) (disch := omega) only [gs, gs2, gs3, gs4, ↓reduceIte, Nat.reduceEqDiff, Int.reduceToNat, Nat.reduceMul, Nat.reduceAdd, Nat.reduceBEq, isLd, e1], by simp (maxSteps := 300000) (disch := omega) only [gs, gs2, gs3, gs4, ↓reduceIte, Nat.reduceEqDiff, Int.reduceToNat, Nat.reduceMul, Nat.reduceAdd, Nat.reduceBEq, isLd, e4], by simp (maxSteps := 300000) (disch := omega) only [gs, gs2, gs3, gs4, ↓reduceIte, Nat.reduceEqDiff, Int.reduceToNat, Nat.reduceMul, Nat.reduceAdd, Nat.reduceBEq, isLd, e5], by simp (maxSteps := 300000) (disch := omega) only [gs, gs2, gs3, gs4, ↓reduceIte, Nat.reduceEqDiff, Int.reduceToNat, Nat.reduceMul, Nat.reduceAdd, Nat.reduceBEq, isLd, e6], by simp (maxSteps := 300000) (disch := omega) only [gs, gs2, gs3, gs4, ↓reduceIte, Nat.reduceEqDiff, Int.reduceToNat, Nat.reduceMul, Nat.reduceAdd, Nat.reduceBEq, isLd] <;> rfl, by simp (maxSteps := 300000) (disch := omega) only [gs, gs2, gs3, gs4, ↓reduceIte, Nat.reduceEqDiff, Int.reduceToNat, Nat.reduceMul, Nat.reduceAdd, Nat.reduceBEq, isLd] <;> rfl, by omega, by omega, Sub.put hby _, fun a ha => (by cases ha; exact hby), Own.blk (put_same _ _ _) rfl⟩ ?_
    clear e0 e1 e4 e5 e6
    rintro m' T' G'' ⟨j, Zr, zr, e0, e1, e4, e5, e6, e7, e8, hm', hjl, hS, hO, hW⟩
    simp (maxSteps := 300000) (disch := omega) only [gs, gs2, gs3, gs4, ↓reduceIte, Nat.reduceEqDiff, Int.reduceToNat, Nat.reduceMul, Nat.reduceAdd, Nat.reduceBEq, isLd, e0, e1, e4, e5, e6, e7, e8]
    by_cases hjj : (j : Int) < wanted.length
    · have q4 := q2.sub hS
      have rw' := (hw3.sub hS).rd j (by omega)
      have hsw := (hw3.sub hS).sn (by omega)
      have rk4 := q4.rows.r k (by omega)
      simp (maxSteps := 300000) (disch := omega) only [gs, gs2, gs3, gs4, ↓reduceIte, Nat.reduceEqDiff, Int.reduceToNat, Nat.reduceMul, Nat.reduceAdd, Nat.reduceBEq, isLd, e0, e1, e4, e5, e6, e7, e8, hjj, hkk, q4.f0, q4.f1, rk4, rw']
      refine spec_l20Cell_ok q4.cols (q4.rows.row k (by omega)) hxl (by omega) fun w hw1 hw2 => ?_
      obtain rfl := hw1 (hmem _ (by simp [List.getD, show j < wanted.length by omega]))
      simp (maxSteps := 300000) (disch := omega) only [gs, gs2, gs3, gs4, ↓reduceIte, Nat.reduceEqDiff, Int.reduceToNat, Nat.reduceMul, Nat.reduceAdd, Nat.reduceBEq, isLd, e0, e1, e4, e5, e6, e7, e8, hjj, hkk, q4.f0, q4.f1, rk4, rw', gBs]
      refine ⟨fun v hv => (by simp at hv; subst hv; rfl), fun bs hbs => ?_⟩
      have sy := Sub.put hbs ⟨[I64 (cellAt t.cols (t.rows.getD k []) (wanted.getD j 0))], true⟩
      refine ⟨⟨rd_sub sy rw', rd_sub sy rk4, rd_sub sy q4.f1, rd_sub sy q4.f0⟩, ?_⟩
      refine ap_own (hW.sub sy) (news := [I64 (cellAt t.cols (t.rows.getD k []) (wanted.getD j 0))]) (m := 1) (cells_one _ true) rfl (by intro v hv; simp at hv; subst hv; rfl) rfl (by omega) (by omega) (by omega) fun G6 A6 c6 hW6 keep => ?_
      obtain ⟨hS6, hO6⟩ := keep G' (hS.trans sy) hO
      have q6 := q2.sub hS6
      simp (maxSteps := 300000) (disch := omega) only [gs, gs2, gs3, gs4, ↓reduceIte, Nat.reduceEqDiff, Int.reduceToNat, Nat.reduceMul, Nat.reduceAdd, Nat.reduceBEq, isLd, e0, e1, e4, e5, e6, e7, e8, q6.f0, q6.f1, q6.rows.r k (by omega), (hw3.sub hS6).rd j (by omega)]
      refine ⟨m' - 1, by omega, G6, Sub.refl _, j + 1, A6, c6, rfl, rfl, by omega, by omega, hS6, hO6, ?_⟩
      refine hW6.cast ?_ rfl
      rw [map_take (d := 0) (show j < wanted.length by omega), List.map_append]
      rfl
    · simp (maxSteps := 300000) (disch := omega) only [gs, gs2, gs3, gs4, ↓reduceIte, Nat.reduceEqDiff, Int.reduceToNat, Nat.reduceMul, Nat.reduceAdd, Nat.reduceBEq, isLd, e0, e1, e4, e5, e6, e7, e8, hjj]
      obtain rfl : j = wanted.length := by omega
      rw [List.take_length] at hW
      have f50 : rd G'' (some ⟨b5, 1, none⟩) = some (.slice Z (srt ((t.rows.take k).map (prj t.cols wanted))).length z) := rd_sub (hX.sub.trans hS) (rd_box _ _ _ 1 _ rfl)
      simp (maxSteps := 300000) (disch := omega) only [gs, gs2, gs3, gs4, ↓reduceIte, Nat.reduceEqDiff, Int.reduceToNat, Nat.reduceMul, Nat.reduceAdd, Nat.reduceBEq, isLd, e0, e1, e4, e5, e6, e7, e8, f50]
      have hX' := hX.up hS
      have hP : IntS G'' Zr zr (prj t.cols wanted (t.rows.getD k [])) := hW.ints' (prj_len _ _ _).symm
      rw [show Value.slice Zr wanted.length zr = Value.slice Zr (prj t.cols wanted (t.rows.getD k [])).length zr by rw [prj_len]]
      refine spec_l20Put_ok hX'.own (srt_asc _) hP (by omega) (fun i hi => ?_) (by rw [prj_len]; omega) fun G4 Z' z' hs' s4' hO4 oZ4 oR4 => ?_
      · have hm : (srt ((t.rows.take k).map (prj t.cols wanted))).getD i [] ∈ srt ((t.rows.take k).map (prj t.cols wanted)) := getD_memL hi
        rw [srt_mem] at hm
        obtain ⟨r, _, hr⟩ := List.mem_map.1 hm
        rw [← hr, prj_len]; omega
      simp (maxSteps := 300000) (disch := omega) only [gs, gs2, gs3, gs4, ↓reduceIte, Nat.reduceEqDiff, Int.reduceToNat, Nat.reduceMul, Nat.reduceAdd, Nat.reduceBEq, isLd, e0, e1, e4, e5, e6, e7, e8]
      refine hX'.repl s4' hO4 oZ4 oR4 fun G5 hX5 => ?_
      simp (maxSteps := 300000) (disch := omega) only [gs, gs2, gs3, gs4, ↓reduceIte, Nat.reduceEqDiff, Int.reduceToNat, Nat.reduceMul, Nat.reduceAdd, Nat.reduceBEq, isLd, e0, e1, e4, e5, e6]
      exact ⟨m - 1, by omega, G5, Sub.refl _, k + 1, Z', z', hs', rfl, by omega, by omega, by rw [htk]; exact hX5⟩
  · obtain rfl : k = t.rows.length := by omega
    rw [List.take_length] at hX
    have f50 : rd G' (some ⟨b5, 0, none⟩) = some (.slice A1 wanted.length c1) := rd_sub hX.sub (rd_box _ _ _ 0 _ rfl)
    have f51 : rd G' (some ⟨b5, 1, none⟩) = some (.slice Z (srt (t.rows.map (prj t.cols wanted))).length z) := rd_sub hX.sub (rd_box _ _ _ 1 _ rfl)
    simp (maxSteps := 300000) (disch := omega) only [gs, gs2, gs3, gs4, ↓reduceIte, Nat.reduceEqDiff, Int.reduceToNat, Nat.reduceMul, Nat.reduceAdd, Nat.reduceBEq, isLd, e0, e1, e4, e5, e6, q2.f1, hkk, f50, f51]
    refine st_many (vs := [.slice A1 wanted.length c1, .slice Z (srt (t.rows.map (prj t.cols wanted))).length z]) rfl (hX.low _ _ g4') rfl (by simp) (by intro v hv; simp at hv; rcases hv with rfl | rfl <;> rfl) ?_
    simp only [over, List.set_cons_zero, List.set_cons_succ]
    have k0 : rd (put G' b4 ⟨[.slice A1 wanted.length c1, .slice Z (srt (t.rows.map (prj t.cols wanted))).length z], true⟩) (some ⟨b4, 0, none⟩) = some (.slice A1 wanted.length c1) := rd_box _ _ _ 0 _ rfl
    have k1 : rd (put G' b4 ⟨[.slice A1 wanted.length c1, .slice Z (srt (t.rows.map (prj t.cols wanted))).length z], true⟩) (some ⟨b4, 1, none⟩) = some (.slice Z (srt (t.rows.map (prj t.cols wanted))).length z) := rd_box _ _ _ 1 _ rfl
    simp (maxSteps := 300000) (disch := omega) only [gs, gs2, gs3, gs4, ↓reduceIte, Nat.reduceEqDiff, Int.reduceToNat, Nat.reduceMul, Nat.reduceAdd, Nat.reduceBEq, isLd, e4, k0, k1]
    exact ⟨_, Sub.refl _, hk _ _ _ _ _ _ (hX.newT (N := projT t wanted) sH hA1 oA1 ((sH.trans hX.low).skip hb4) (Oth.put _ _ _) n41 (fun x hx => by subst hx; rw [g4']; simp))⟩
theorem comm_mem {a b : List Int} {v : Int} (h : v ∈ comm a b) : v ∈ a ∧ v ∈ b := by
  unfold comm at h
  rw [List.mem_filter] at h
  exact ⟨h.1, by simpa using h.2⟩
theorem projT_sh {t : Tab} {w : List Int} (nt : t.rows.length < 2 ^ 20) (hl : w.length < 2 ^ 30) : Sh (projT t w).rows := by
  refine ⟨by have := srt_len (t.rows.map (prj t.cols w)); rw [List.length_map] at this; show (srt _).length < _; omega, fun i hi => ?_⟩
  have hm : (srt (t.rows.map (prj t.cols w))).getD i [] ∈ srt (t.rows.map (prj t.cols w)) := by
    have hi' : i < (srt (t.rows.map (prj t.cols w))).length := hi
    simp [List.getD, hi']
  rw [srt_mem] at hm
  obtain ⟨r, _, hr⟩ := List.mem_map.1 hm
  show ((srt (t.rows.map (prj t.cols w))).getD i []).length < _
  rw [← hr, prj_len]; omega
/-- two tables that agree on their common columns. -/
def AgreeP (a b : Tab) : Prop := projT a (comm a.cols b.cols) = projT b (comm a.cols b.cols)
theorem impl_agree_ok {G : GH} {a b : Tab} {A B A' B' : Option Addr} {c d c' d' : Nat} {hs hs' : Nat → Option Addr × Nat} (h : IntS G A c a.cols) (hr : RowS G B d hs a.rows) (h' : IntS G A' c' b.cols) (hr' : RowS G B' d' hs' b.rows) (hl : a.cols.length < 2 ^ 30) (hl' : b.cols.length < 2 ^ 30) (ra : RowL a) (rb : RowL b) (na : a.rows.length < 2 ^ 20) (nb : b.rows.length < 2 ^ 20)
    {K : Value → GH → Prop} (hk : ∀ z : Bool, (z = true ↔ AgreeP a b) → K (.bool z) G) : GC Try.prog 47 [tabV a A c B d, tabV b A' c' B' d'] G K := by
  refine GC_drop (c_impl_agree_i (by simp) ?_)
  have fb : ∀ {G' : GH} {q : Nat} {N : Tab} {A B : Option Addr} {c d : Nat} {hs : Nat → Option Addr × Nat}, TabP G' (some ⟨q, 0, none⟩) N A c B d hs → rd G' (some ⟨q, 1, none⟩) = some (.slice B N.rows.length d) := fun h => by
    have := h.f1; rwa [pa_mk] at this
  unfold tabV tabC
  simp (maxSteps := 300000) (disch := omega) only [gs, gs2, gs3, gs4, ↓reduceIte, Nat.reduceEqDiff, Int.reduceToNat, Nat.reduceMul, Nat.reduceAdd, Nat.reduceBEq, isLd]
  intro b2 hb2
  have p2 := TabP.box hb2 h hr
  have s2 := Sub.put hb2 ⟨tabC a A c B d, true⟩
  unfold tabC at p2 s2
  simp (maxSteps := 300000) (disch := omega) only [gs, gs2, gs3, gs4, ↓reduceIte, Nat.reduceEqDiff, Int.reduceToNat, Nat.reduceMul, Nat.reduceAdd, Nat.reduceBEq, isLd]
  intro b3 hb3
  have p3 := TabP.box hb3 (h'.sub s2) (hr'.sub s2)
  have s3 := Sub.put hb3 ⟨tabC b A' c' B' d', true⟩
  unfold tabC at p3 s3
  have p2 := p2.sub s3
  have s1 := s2.trans s3
  revert s1 p2 p3
  generalize put (put G b2 ⟨[.slice A a.cols.length c, .slice B a.rows.length d], true⟩) b3 ⟨[.slice A' b.cols.length c', .slice B' b.rows.length d'], true⟩ = G1
  intro p3 p2 s1
  clear hb2 hb3 s2 s3
  simp (maxSteps := 300000) (disch := omega) only [gs, gs2, gs3, gs4, ↓reduceIte, Nat.reduceEqDiff, Int.reduceToNat, Nat.reduceMul, Nat.reduceAdd, Nat.reduceBEq, isLd, p2.f0, fb p2, p3.f0, fb p3]
  refine impl_commonColumns_ok p2.cols p3.cols hl hl' fun G2 D e hN => ?_
  have hcl := comm_len a.cols b.cols
  have hD := hN.ints
  have p2 := p2.sub hN.sub
  have p3 := p3.sub hN.sub
  have s1 := s1.trans hN.sub
  simp (maxSteps := 300000) (disch := omega) only [gs, gs2, gs3, gs4, ↓reduceIte, Nat.reduceEqDiff, Int.reduceToNat, Nat.reduceMul, Nat.reduceAdd, Nat.reduceBEq, isLd, p2.f0, fb p2, p3.f0, fb p3]
  refine impl_projected_ok p2.cols p2.rows hD (fun v hv => (comm_mem hv).1) hl (by omega) ra na fun G3 X x Y y hs3 h3 => ?_
  have p3' := p3.sub h3.sub
  have p2' := p2.sub h3.sub
  simp (maxSteps := 300000) (disch := omega) only [gs, gs2, gs3, gs4, ↓reduceIte, Nat.reduceEqDiff, Int.reduceToNat, Nat.reduceMul, Nat.reduceAdd, Nat.reduceBEq, isLd, p2'.f0, fb p2', p3'.f0, fb p3']
  refine impl_projected_ok p3'.cols p3'.rows (hD.sub h3.sub) (fun v hv => (comm_mem hv).2) hl' (by omega) rb nb fun G4 X' x' Y' y' hs4 h4 => ?_
  have p3' := p3'.sub h4.sub
  have p2' := p2'.sub h4.sub
  have o3 := (h3.own.sub (Sub.rest _ _)).sub h4.sub
  have o4 := h4.own.sub (Sub.rest _ _)
  simp (maxSteps := 300000) (disch := omega) only [gs, gs2, gs3, gs4, ↓reduceIte, Nat.reduceEqDiff, Int.reduceToNat, Nat.reduceMul, Nat.reduceAdd, Nat.reduceBEq, isLd, p2'.f0, fb p2', p3'.f0, fb p3']
  refine impl_SameTable_ok o3.cols.ints o3.rows.rows o4.cols.ints o4.rows.rows (by show (comm a.cols b.cols).length < _; omega) (projT_sh na (by omega)) fun z hz => ?_
  simp (maxSteps := 300000) (disch := omega) only [gs, gs2, gs3, gs4, ↓reduceIte, Nat.reduceEqDiff, Int.reduceToNat, Nat.reduceMul, Nat.reduceAdd, Nat.reduceBEq, isLd, p2'.f0, fb p2', p3'.f0, fb p3']
  exact ⟨G, s1.trans (h3.sub.trans h4.sub), hk z hz⟩
theorem filt_take {xs : List Int} {P : Int → Bool} {k : Nat} (hk : k < xs.length) : (xs.take (k + 1)).filter P = if P (xs.getD k 0) = true then (xs.take k).filter P ++ [xs.getD k 0] else (xs.take k).filter P := by
  rw [List.take_succ_eq_append_getElem hk, List.filter_append]
  have : xs.getD k 0 = xs[k] := by simp [List.getD, hk]
  rw [this]
  split
  · next h => rw [List.filter_cons_of_pos h]; rfl
  · next h => rw [List.filter_cons_of_neg h]; simp
theorem spec_l20Agree_ok {G : GH} {q q' : Option Addr} {a b : Tab} {A B A' B' : Option Addr} {c d c' d' : Nat} {hs hs' : Nat → Option Addr × Nat} (p2 : TabP G q a A c B d hs) (p3 : TabP G q' b A' c' B' d' hs') (ha : TabOk a) (hb : TabOk b)
    {K : Value → GH → Prop} (hk : ∀ z : Bool, (z = true ↔ AgreeP a b) → K (.bool z) G) : GC Try.prog 44 [.pointer q, .pointer q'] G K := by
  refine GC_drop (c_spec_l20Agree_i (by simp) ?_)
  obtain ⟨ra, ca, na⟩ := ha.rowL
  obtain ⟨rb, cb, nb⟩ := hb.rowL
  have hq := rd_some p2.f0
  have hq' := rd_some p3.f0
  simp (maxSteps := 300000) (disch := omega) only [gs, gs2, gs3, gs4, ↓reduceIte, Nat.reduceEqDiff, Int.reduceToNat, Nat.reduceMul, Nat.reduceAdd, Nat.reduceBEq, isLd, gBs]
  refine ⟨fun v hv => (by cases hv), fun bz hbz => ?_⟩
  refine gLoop_intro (fun m T G' => ∃ (k : Nat) (Z : Option Addr) (z : Nat), T 0 = .pointer q ∧ T 1 = .pointer q' ∧ T 5 = .slice Z ((a.cols.take k).filter fun v => decide (v ∈ b.cols)).length z ∧ T 6 = .int .i64 k ∧ m + k = a.cols.length ∧ k ≤ a.cols.length ∧ Sub G G' ∧ Off G Z ∧
      Own G' Z z (((a.cols.take k).filter fun v => decide (v ∈ b.cols)).map I64) 1 ((a.cols.take k).filter fun v => decide (v ∈ b.cols)).length) a.cols.length
    ⟨0, some ⟨bz, 0, none⟩, 0, by simp (maxSteps := 300000) (disch := omega) only [gs, gs2, gs3, gs4, ↓reduceIte, Nat.reduceEqDiff, Int.reduceToNat, Nat.reduceMul, Nat.reduceAdd, Nat.reduceBEq, isLd], by simp (maxSteps := 300000) (disch := omega) only [gs, gs2, gs3, gs4, ↓reduceIte, Nat.reduceEqDiff, Int.reduceToNat, Nat.reduceMul, Nat.reduceAdd, Nat.reduceBEq, isLd], by simp (maxSteps := 300000) (disch := omega) only [gs, gs2, gs3, gs4, ↓reduceIte, Nat.reduceEqDiff, Int.reduceToNat, Nat.reduceMul, Nat.reduceAdd, Nat.reduceBEq, isLd] <;> rfl, by simp (maxSteps := 300000) (disch := omega) only [gs, gs2, gs3, gs4, ↓reduceIte, Nat.reduceEqDiff, Int.reduceToNat, Nat.reduceMul, Nat.reduceAdd, Nat.reduceBEq, isLd] <;> rfl, by omega, by omega, Sub.put hbz _, fun a ha => (by cases ha; exact hbz), Own.blk (put_same _ _ _) rfl⟩ ?_
  rintro m T G' ⟨k, Z, z, e0, e1, e5, e6, hm, hkl, hS, hO, hW⟩
  have q2 := p2.sub hS
  have q3 := p3.sub hS
  simp (maxSteps := 300000) (disch := omega) only [gs, gs2, gs3, gs4, ↓reduceIte, Nat.reduceEqDiff, Int.reduceToNat, Nat.reduceMul, Nat.reduceAdd, Nat.reduceBEq, isLd, e0, e1, e5, e6, q2.f0]
  have hlen : ((a.cols.take k).filter fun v => decide (v ∈ b.cols)).length ≤ k := Nat.le_trans (List.length_filter_le _ _) (by rw [List.length_take]; omega)
  by_cases hkk : (k : Int) < a.cols.length
  · have rk := q2.cols.rd k (by omega)
    have hsc := q2.cols.sn (by omega)
    have hft := filt_take (xs := a.cols) (P := fun v => decide (v ∈ b.cols)) (k := k) (by omega)
    simp (maxSteps := 300000) (disch := omega) only [gs, gs2, gs3, gs4, ↓reduceIte, Nat.reduceEqDiff, Int.reduceToNat, Nat.reduceMul, Nat.reduceAdd, Nat.reduceBEq, isLd, e0, e1, e5, e6, q2.f0, q3.f0, hkk, rk]
    refine spec_l00Has_ok q3.cols (by omega) fun w hw => ?_
    cases w
    · rw [if_neg (by simpa using fun y => by have := hw.2 y; cases this)] at hft
      simp (maxSteps := 300000) (disch := omega) only [gs, gs2, gs3, gs4, ↓reduceIte, Nat.reduceEqDiff, Int.reduceToNat, Nat.reduceMul, Nat.reduceAdd, Nat.reduceBEq, isLd, e0, e1, e5, e6, q2.f0, q3.f0, hkk, rk]
      exact ⟨m - 1, by omega, G', Sub.refl _, k + 1, Z, z, by rw [hft], rfl, by omega, by omega, hS, hO, by rw [hft]; exact hW⟩
    · rw [if_pos (by simpa using hw.1 rfl)] at hft
      simp (maxSteps := 300000) (disch := omega) only [gs, gs2, gs3, gs4, ↓reduceIte, Nat.reduceEqDiff, Int.reduceToNat, Nat.reduceMul, Nat.reduceAdd, Nat.reduceBEq, isLd, e0, e1, e5, e6, q2.f0, q3.f0, hkk, rk, gBs]
      refine ⟨fun v hv => (by simp at hv; subst hv; rfl), fun bs hbs => ?_⟩
      have sy := Sub.put hbs ⟨[I64 (a.cols.getD k 0)], true⟩
      refine ap_own (hW.sub sy) (news := [I64 (a.cols.getD k 0)]) (m := 1) (cells_one _ true) rfl (by intro v hv; simp at hv; subst hv; rfl) rfl (by omega) (by omega) (by omega) fun G6 A6 c6 hW6 keep => ?_
      obtain ⟨hS6, hO6⟩ := keep G (hS.trans sy) hO
      simp (maxSteps := 300000) (disch := omega) only [gs, gs2, gs3, gs4, ↓reduceIte, Nat.reduceEqDiff, Int.reduceToNat, Nat.reduceMul, Nat.reduceAdd, Nat.reduceBEq, isLd, e0, e1, e5, e6]
      refine ⟨m - 1, by omega, G6, Sub.refl _, k + 1, A6, c6, by rw [hft, List.length_append]; rfl, rfl, by omega, by omega, hS6, hO6, ?_⟩
      rw [hft]
      exact hW6.cast (by simp) (by simp)
  · obtain rfl : k = a.cols.length := by omega
    rw [List.take_length] at e5 hW hlen
    have hc : (a.cols.filter fun v => decide (v ∈ b.cols)) = comm a.cols b.cols := rfl
    rw [hc] at e5 hW hlen
    simp (maxSteps := 300000) (disch := omega) only [gs, gs2, gs3, gs4, ↓reduceIte, Nat.reduceEqDiff, Int.reduceToNat, Nat.reduceMul, Nat.reduceAdd, Nat.reduceBEq, isLd, e0, e1, e5, e6, q2.f0, q3.f0, hkk]
    refine spec_l20Project_ok q2 hW.ints (fun v hv => (comm_mem hv).1) (by omega) (by omega) ra (by omega) fun G3 X x Y y hs3 h3 => ?_
    unfold tabV tabC
    simp (maxSteps := 300000) (disch := omega) only [gs, gs2, gs3, gs4, ↓reduceIte, Nat.reduceEqDiff, Int.reduceToNat, Nat.reduceMul, Nat.reduceAdd, Nat.reduceBEq, isLd]
    intro b7 hb7
    simp (maxSteps := 300000) (disch := omega) only [gs, gs2, gs3, gs4, ↓reduceIte, Nat.reduceEqDiff, Int.reduceToNat, Nat.reduceMul, Nat.reduceAdd, Nat.reduceBEq, isLd]
    refine st_fresh (vs := [.slice X (projT a (comm a.cols b.cols)).cols.length x, .slice Y (projT a (comm a.cols b.cols)).rows.length y]) rfl rfl rfl (by intro v hv; simp at hv; rcases hv with rfl | rfl <;> rfl) ?_
    have o3 := h3.own.sub (Sub.rest _ _)
    have p7 := TabP.box hb7 o3.cols.ints o3.rows.rows
    have s7 := h3.sub.trans (Sub.put hb7 ⟨tabC (projT a (comm a.cols b.cols)) X x Y y, true⟩)
    unfold tabC at p7 s7
    revert p7 s7
    generalize put G3 b7 ⟨[.slice X (projT a (comm a.cols b.cols)).cols.length x, .slice Y (projT a (comm a.cols b.cols)).rows.length y], true⟩ = G4
    intro p7 s7
    simp (maxSteps := 300000) (disch := omega) only [gs, gs2, gs3, gs4, ↓reduceIte, Nat.reduceEqDiff, Int.reduceToNat, Nat.reduceMul, Nat.reduceAdd, Nat.reduceBEq, isLd, e0, e1, e5, e6]
    refine spec_l20Project_ok (q3.sub s7) (hW.ints.sub s7) (fun v hv => (comm_mem hv).2) (by omega) (by omega) rb (by omega) fun G5 X' x' Y' y' hs5 h5 => ?_
    unfold tabV tabC
    simp (maxSteps := 300000) (disch := omega) only [gs, gs2, gs3, gs4, ↓reduceIte, Nat.reduceEqDiff, Int.reduceToNat, Nat.reduceMul, Nat.reduceAdd, Nat.reduceBEq, isLd]
    intro b8 hb8
    simp (maxSteps := 300000) (disch := omega) only [gs, gs2, gs3, gs4, ↓reduceIte, Nat.reduceEqDiff, Int.reduceToNat, Nat.reduceMul, Nat.reduceAdd, Nat.reduceBEq, isLd]
    refine st_fresh (vs := [.slice X' (projT b (comm a.cols b.cols)).cols.length x', .slice Y' (projT b (comm a.cols b.cols)).rows.length y']) rfl rfl rfl (by intro v hv; simp at hv; rcases hv with rfl | rfl <;> rfl) ?_
    have o5 := h5.own.sub (Sub.rest _ _)
    have p8 := TabP.box hb8 o5.cols.ints o5.rows.rows
    have s8 := h5.sub.trans (Sub.put hb8 ⟨tabC (projT b (comm a.cols b.cols)) X' x' Y' y', true⟩)
    unfold tabC at p8 s8
    revert p8 s8
    generalize put G5 b8 ⟨[.slice X' (projT b (comm a.cols b.cols)).cols.length x', .slice Y' (projT b (comm a.cols b.cols)).rows.length y'], true⟩ = G6
    intro p8 s8
    simp (maxSteps := 300000) (disch := omega) only [gs, gs2, gs3, gs4, ↓reduceIte, Nat.reduceEqDiff, Int.reduceToNat, Nat.reduceMul, Nat.reduceAdd, Nat.reduceBEq, isLd]
    refine spec_l20Same_ok (p7.sub s8) p8 (by show (comm a.cols b.cols).length < _; omega) (projT_sh (by omega) (by omega)) fun z hz => ?_
    simp (maxSteps := 300000) (disch := omega) only [gs, gs2, gs3, gs4, ↓reduceIte, Nat.reduceEqDiff, Int.reduceToNat, Nat.reduceMul, Nat.reduceAdd, Nat.reduceBEq, isLd]
    exact ⟨G, hS.trans (s7.trans s8), hk z hz⟩
/-- the first pair of tables that do not agree. -/
def DisR (ts : List Tab) : Option (Nat × Nat) → Prop
  | none => ∀ i j, i < j → j < ts.length → AgreeP (ts.getD i t0) (ts.getD j t0)
  | some (i, j) => i < j ∧ j < ts.length ∧ ¬ AgreeP (ts.getD i t0) (ts.getD j t0) ∧ ∀ i' j', i' < j' → j' < ts.length → (i' < i ∨ (i' = i ∧ j' < j)) → AgreeP (ts.getD i' t0) (ts.getD j' t0)
theorem DisR.one {ts : List Tab} {r r' : Option (Nat × Nat)} (h : DisR ts r) (h' : DisR ts r') : r = r' := by
  cases r with
  | none =>
    cases r' with
    | none => rfl
    | some p => exact absurd (h p.1 p.2 h'.1 h'.2.1) h'.2.2.1
  | some p =>
    cases r' with
    | none => exact absurd (h' p.1 p.2 h.1 h.2.1) h.2.2.1
    | some p' =>
      obtain ⟨i, j⟩ := p
      obtain ⟨i', j'⟩ := p'
      obtain ⟨a1, a2, a3, a4⟩ := h
      obtain ⟨b1, b2, b3, b4⟩ := h'
      have c1 : ¬ (i' < i ∨ (i' = i ∧ j' < j)) := fun y => b3 (a4 _ _ b1 b2 y)
      have c2 : ¬ (i < i' ∨ (i = i' ∧ j < j')) := fun y => a3 (b4 _ _ a1 a2 y)
      have e1 : i = i' := by omega
      have e2 : j = j' := by omega
      rw [e1, e2]
noncomputable def disT (ts : List Tab) : Option (Nat × Nat) := Classical.epsilon (DisR ts)
theorem disT_eq {ts : List Tab} {r : Option (Nat × Nat)} (h : DisR ts r) : disT ts = r := (Classical.epsilon_spec ⟨r, h⟩ : DisR ts (disT ts)).one h
def tri3V (p : Int × Int × Int) : Value := .tuple [.int .i64 p.1, .int .i64 p.2.1, .int .i64 p.2.2].toArray
def disV : Option (Nat × Nat) → Value
  | none => .tuple [.int .i64 0, .int .i64 0, .bool false].toArray
  | some (i, j) => .tuple [.int .i64 i, .int .i64 j, .bool true].toArray
def disV' : Option (Nat × Nat) → Value
  | none => pairV (-1, -1)
  | some (i, j) => pairV (i, j)
def fdO : Option (Nat × Nat) → Int × Int × Int
  | none => (0, 0, 3)
  | some (i, j) => (i, j, 0)
open Classical in
noncomputable def fdV (ts : List Tab) : Int × Int × Int := if TabsOk ts then fdO (disT ts) else (0, 0, 1)
theorem fdV_no {ts : List Tab} (h : ¬ TabsOk ts) : fdV ts = (0, 0, 1) := by unfold fdV; rw [if_neg h]
theorem fdV_yes {ts : List Tab} {r : Option (Nat × Nat)} (h : TabsOk ts) (hr : DisR ts r) : fdV ts = fdO r := by unfold fdV; rw [if_pos h, disT_eq hr]
theorem impl_disagreement_ok {G : GH} {A : Option Addr} {c : Nat} {H : Nat → TH} {ts : List Tab} (h : TabsS G A c H ts) (ho : TabsOk ts) {K : Value → GH → Prop}
    (hk : ∀ r, DisR ts r → K (disV r) G) : GC Try.prog 55 [.slice A ts.length c] G K := by
  refine GC_drop (c_impl_disagreement_i (by simp) ?_)
  obtain ⟨h6, hv⟩ := ho
  have hsn := h.sn
  have r0 := h.r0
  have r1 := h.r1
  simp (maxSteps := 300000) (disch := omega) only [gs, gs2, gs3, gs4, ↓reduceIte, Nat.reduceEqDiff, Int.reduceToNat, Nat.reduceMul, Nat.reduceAdd, Nat.reduceBEq, isLd]
  refine gLoop_intro (fun m T G' => ∃ k : Nat, T 0 = .slice A ts.length c ∧ T 8 = .slice A ts.length c ∧ T 9 = .int .i64 ts.length ∧ T 10 = .int .i64 k ∧ m + k = ts.length ∧ k ≤ ts.length ∧ G' = G ∧ ∀ i j, i < j → j < ts.length → i < k → AgreeP (ts.getD i t0) (ts.getD j t0)) ts.length
    ⟨0, by simp (maxSteps := 300000) (disch := omega) only [gs, gs2, gs3, gs4, ↓reduceIte, Nat.reduceEqDiff, Int.reduceToNat, Nat.reduceMul, Nat.reduceAdd, Nat.reduceBEq, isLd], by simp (maxSteps := 300000) (disch := omega) only [gs, gs2, gs3, gs4, ↓reduceIte, Nat.reduceEqDiff, Int.reduceToNat, Nat.reduceMul, Nat.reduceAdd, Nat.reduceBEq, isLd], by simp (maxSteps := 300000) (disch := omega) only [gs, gs2, gs3, gs4, ↓reduceIte, Nat.reduceEqDiff, Int.reduceToNat, Nat.reduceMul, Nat.reduceAdd, Nat.reduceBEq, isLd], by simp (maxSteps := 300000) (disch := omega) only [gs, gs2, gs3, gs4, ↓reduceIte, Nat.reduceEqDiff, Int.reduceToNat, Nat.reduceMul, Nat.reduceAdd, Nat.reduceBEq, isLd] <;> rfl, by omega, by omega, rfl, fun i j _ _ y => by omega⟩ ?_
  rintro m T G' ⟨k, e0, e8, e9, e10, hm, hkl, rfl, hin⟩
  simp (maxSteps := 300000) (disch := omega) only [gs, gs2, gs3, gs4, ↓reduceIte, Nat.reduceEqDiff, Int.reduceToNat, Nat.reduceMul, Nat.reduceAdd, Nat.reduceBEq, isLd, e0, e8, e9, e10]
  by_cases hkk : (k : Int) < ts.length
  · obtain ⟨ra, ca, na⟩ := (hv k (by omega)).rowL
    simp (maxSteps := 300000) (disch := omega) only [gs, gs2, gs3, gs4, ↓reduceIte, Nat.reduceEqDiff, Int.reduceToNat, Nat.reduceMul, Nat.reduceAdd, Nat.reduceBEq, isLd, e0, e8, e9, e10, hkk, r0, r1]
    intro b6 hb6
    simp (maxSteps := 300000) (disch := omega) only [gs, gs2, gs3, gs4, ↓reduceIte, Nat.reduceEqDiff, Int.reduceToNat, Nat.reduceMul, Nat.reduceAdd, Nat.reduceBEq, isLd]
    refine st_fresh (vs := [.slice (H k).A (ts.getD k t0).cols.length (H k).c, .slice (H k).B (ts.getD k t0).rows.length (H k).d]) rfl rfl rfl (by intro v hv; simp at hv; rcases hv with rfl | rfl <;> rfl) ?_
    have p6 := TabP.box hb6 (h.cols k (by omega)) (h.rows k (by omega))
    have s6 := Sub.put hb6 ⟨tabC (ts.getD k t0) (H k).A (H k).c (H k).B (H k).d, true⟩
    unfold tabC at p6 s6
    revert p6 s6
    generalize put G' b6 ⟨[.slice (H k).A (ts.getD k t0).cols.length (H k).c, .slice (H k).B (ts.getD k t0).rows.length (H k).d], true⟩ = G1
    intro p6 s6
    have h1 := h.sub s6
    have q0 := h1.r0
    have q1 := h1.r1
    have f61 : rd G1 (some ⟨b6, 1, none⟩) = some (.slice (H k).B (ts.getD k t0).rows.length (H k).d) := by have := p6.f1; rwa [pa_mk] at this
    simp (maxSteps := 300000) (disch := omega) only [gs, gs2, gs3, gs4, ↓reduceIte, Nat.reduceEqDiff, Int.reduceToNat, Nat.reduceMul, Nat.reduceAdd, Nat.reduceBEq, isLd, e0, e8, e9, e10]
    refine gLoop_intro (fun m' T' G'' => ∃ j : Nat, T' 0 = .slice A ts.length c ∧ T' 5 = .int .i64 k ∧ T' 6 = .pointer (some ⟨b6, 0, none⟩) ∧ T' 7 = .int .i64 j ∧ T' 8 = .slice A ts.length c ∧ T' 9 = .int .i64 ts.length ∧ T' 10 = .int .i64 k ∧ m' + j = ts.length ∧ k < j ∧ j ≤ ts.length ∧ G'' = G1 ∧ ∀ j', k < j' → j' < j → AgreeP (ts.getD k t0) (ts.getD j' t0)) (ts.length - (k + 1))
      ⟨k + 1, by simp (maxSteps := 300000) (disch := omega) only [gs, gs2, gs3, gs4, ↓reduceIte, Nat.reduceEqDiff, Int.reduceToNat, Nat.reduceMul, Nat.reduceAdd, Nat.reduceBEq, isLd, e0], by simp (maxSteps := 300000) (disch := omega) only [gs, gs2, gs3, gs4, ↓reduceIte, Nat.reduceEqDiff, Int.reduceToNat, Nat.reduceMul, Nat.reduceAdd, Nat.reduceBEq, isLd], by simp (maxSteps := 300000) (disch := omega) only [gs, gs2, gs3, gs4, ↓reduceIte, Nat.reduceEqDiff, Int.reduceToNat, Nat.reduceMul, Nat.reduceAdd, Nat.reduceBEq, isLd], by simp (maxSteps := 300000) (disch := omega) only [gs, gs2, gs3, gs4, ↓reduceIte, Nat.reduceEqDiff, Int.reduceToNat, Nat.reduceMul, Nat.reduceAdd, Nat.reduceBEq, isLd] <;> rfl, by simp (maxSteps := 300000) (disch := omega) only [gs, gs2, gs3, gs4, ↓reduceIte, Nat.reduceEqDiff, Int.reduceToNat, Nat.reduceMul, Nat.reduceAdd, Nat.reduceBEq, isLd, e8], by simp (maxSteps := 300000) (disch := omega) only [gs, gs2, gs3, gs4, ↓reduceIte, Nat.reduceEqDiff, Int.reduceToNat, Nat.reduceMul, Nat.reduceAdd, Nat.reduceBEq, isLd, e9], by simp (maxSteps := 300000) (disch := omega) only [gs, gs2, gs3, gs4, ↓reduceIte, Nat.reduceEqDiff, Int.reduceToNat, Nat.reduceMul, Nat.reduceAdd, Nat.reduceBEq, isLd, e10], by omega, by omega, by omega, rfl, fun j' _ _ => by omega⟩ ?_
    clear e0 e8 e9 e10
    rintro m' T' G'' ⟨j, e0, e5, e6, e7, e8, e9, e10, hm', hkj, hjl, rfl, hin'⟩
    simp (maxSteps := 300000) (disch := omega) only [gs, gs2, gs3, gs4, ↓reduceIte, Nat.reduceEqDiff, Int.reduceToNat, Nat.reduceMul, Nat.reduceAdd, Nat.reduceBEq, isLd, e0, e5, e6, e7, e8, e9, e10]
    by_cases hjj : (j : Int) < ts.length
    · obtain ⟨rb, cb, nb⟩ := (hv j (by omega)).rowL
      simp (maxSteps := 300000) (disch := omega) only [gs, gs2, gs3, gs4, ↓reduceIte, Nat.reduceEqDiff, Int.reduceToNat, Nat.reduceMul, Nat.reduceAdd, Nat.reduceBEq, isLd, e0, e5, e6, e7, e8, e9, e10, hjj, p6.f0, f61, q0, q1]
      refine impl_agree_ok (a := ts.getD k t0) (b := ts.getD j t0) p6.cols p6.rows (h1.cols j (by omega)) (h1.rows j (by omega)) (by omega) (by omega) ra rb (by omega) (by omega) fun z hz => ?_
      cases z
      · simp (maxSteps := 300000) (disch := omega) only [gs, gs2, gs3, gs4, ↓reduceIte, Nat.reduceEqDiff, Int.reduceToNat, Nat.reduceMul, Nat.reduceAdd, Nat.reduceBEq, isLd, e0, e5, e6, e7, e8, e9, e10]
        refine ⟨G', s6, hk (some (k, j)) ⟨hkj, by omega, fun y => (by have := hz.2 y; cases this), fun i' j' y1 y2 y3 => ?_⟩⟩
        rcases y3 with y3 | ⟨rfl, y3⟩
        · exact hin _ _ y1 y2 y3
        · exact hin' _ y1 y3
      · simp (maxSteps := 300000) (disch := omega) only [gs, gs2, gs3, gs4, ↓reduceIte, Nat.reduceEqDiff, Int.reduceToNat, Nat.reduceMul, Nat.reduceAdd, Nat.reduceBEq, isLd, e0, e5, e6, e7, e8, e9, e10]
        refine ⟨m' - 1, by omega, _, Sub.refl _, j + 1, rfl, by omega, by omega, by omega, rfl, fun j' y1 y2 => ?_⟩
        by_cases c : j' = j
        · subst c; exact hz.1 rfl
        · exact hin' j' y1 (by omega)
    · simp (maxSteps := 300000) (disch := omega) only [gs, gs2, gs3, gs4, ↓reduceIte, Nat.reduceEqDiff, Int.reduceToNat, Nat.reduceMul, Nat.reduceAdd, Nat.reduceBEq, isLd, e0, e5, e6, e7, e8, e9, e10, hjj]
      refine ⟨m - 1, by omega, G', s6, k + 1, rfl, by omega, by omega, rfl, fun i j' y1 y2 y3 => ?_⟩
      by_cases c : i = k
      · subst c; exact hin' j' y1 (by omega)
      · exact hin i j' y1 y2 (by omega)
  · simp (maxSteps := 300000) (disch := omega) only [gs, gs2, gs3, gs4, ↓reduceIte, Nat.reduceEqDiff, Int.reduceToNat, Nat.reduceMul, Nat.reduceAdd, Nat.reduceBEq, isLd, e0, e8, e9, e10, hkk]
    exact ⟨G', Sub.refl _, hk none fun i j y1 y2 => hin i j y1 y2 (by omega)⟩
theorem impl_FirstDisagreement_ok {G : GH} {A : Option Addr} {c : Nat} {H : Nat → TH} {ts : List Tab} (h : TabsS G A c H ts) (hl : TabsSm ts) {K : Value → GH → Prop}
    (hk : K (tri3V (fdV ts)) G) : GC Try.prog 28 [.slice A ts.length c] G K := by
  refine c_impl_FirstDisagreement_i (by simp) ?_
  simp (maxSteps := 300000) (disch := omega) only [gs, gs2, gs3, gs4, ↓reduceIte, Nat.reduceEqDiff, Int.reduceToNat, Nat.reduceMul, Nat.reduceAdd, Nat.reduceBEq, isLd]
  refine impl_ValidTables_ok h hl fun z hz => ?_
  cases z
  · simp (maxSteps := 300000) (disch := omega) only [gs, gs2, gs3, gs4, ↓reduceIte, Nat.reduceEqDiff, Int.reduceToNat, Nat.reduceMul, Nat.reduceAdd, Nat.reduceBEq, isLd]
    rw [fdV_no fun y => by have := hz.2 y; cases this] at hk
    exact hk
  · simp (maxSteps := 300000) (disch := omega) only [gs, gs2, gs3, gs4, ↓reduceIte, Nat.reduceEqDiff, Int.reduceToNat, Nat.reduceMul, Nat.reduceAdd, Nat.reduceBEq, isLd]
    refine impl_disagreement_ok h (hz.1 rfl) fun r hr => ?_
    rw [fdV_yes (hz.1 rfl) hr] at hk
    cases r with
    | none => unfold disV; simp (maxSteps := 300000) (disch := omega) only [gs, gs2, gs3, gs4, ↓reduceIte, Nat.reduceEqDiff, Int.reduceToNat, Nat.reduceMul, Nat.reduceAdd, Nat.reduceBEq, isLd]; exact hk
    | some p => obtain ⟨i, j⟩ := p; unfold disV; simp (maxSteps := 300000) (disch := omega) only [gs, gs2, gs3, gs4, ↓reduceIte, Nat.reduceEqDiff, Int.reduceToNat, Nat.reduceMul, Nat.reduceAdd, Nat.reduceBEq, isLd]; exact hk
theorem spec_l20First_ok {G : GH} {A : Option Addr} {c : Nat} {H : Nat → TH} {ts : List Tab} (h : TabsS G A c H ts) (ho : TabsOk ts) {K : Value → GH → Prop}
    (hk : ∀ r, DisR ts r → K (disV' r) G) : GC Try.prog 54 [.slice A ts.length c] G K := by
  refine c_spec_l20First_i (by simp) ?_
  obtain ⟨h6, hv⟩ := ho
  have hsn := h.sn
  have tp : ∀ i, i < ts.length → TabP G (pa A (i * 2)) (ts.getD i t0) (H i).A (H i).c (H i).B (H i).d (H i).hs := fun i hi => ⟨h.r0 i hi, by rw [pa_pa]; exact h.r1 i hi, h.cols i hi, h.rows i hi⟩
  simp (maxSteps := 300000) (disch := omega) only [gs, gs2, gs3, gs4, ↓reduceIte, Nat.reduceEqDiff, Int.reduceToNat, Nat.reduceMul, Nat.reduceAdd, Nat.reduceBEq, isLd]
  refine gLoop_intro (fun m T G' => ∃ k : Nat, T 0 = .slice A ts.length c ∧ T 4 = .int .i64 k ∧ m + k = ts.length ∧ k ≤ ts.length ∧ G' = G ∧ ∀ i j, i < j → j < ts.length → i < k → AgreeP (ts.getD i t0) (ts.getD j t0)) ts.length
    ⟨0, by simp (maxSteps := 300000) (disch := omega) only [gs, gs2, gs3, gs4, ↓reduceIte, Nat.reduceEqDiff, Int.reduceToNat, Nat.reduceMul, Nat.reduceAdd, Nat.reduceBEq, isLd], by simp (maxSteps := 300000) (disch := omega) only [gs, gs2, gs3, gs4, ↓reduceIte, Nat.reduceEqDiff, Int.reduceToNat, Nat.reduceMul, Nat.reduceAdd, Nat.reduceBEq, isLd] <;> rfl, by omega, by omega, rfl, fun i j _ _ y => by omega⟩ ?_
  rintro m T G' ⟨k, e0, e4, hm, hkl, rfl, hin⟩
  simp (maxSteps := 300000) (disch := omega) only [gs, gs2, gs3, gs4, ↓reduceIte, Nat.reduceEqDiff, Int.reduceToNat, Nat.reduceMul, Nat.reduceAdd, Nat.reduceBEq, isLd, e0, e4]
  by_cases hkk : (k : Int) < ts.length
  · simp (maxSteps := 300000) (disch := omega) only [gs, gs2, gs3, gs4, ↓reduceIte, Nat.reduceEqDiff, Int.reduceToNat, Nat.reduceMul, Nat.reduceAdd, Nat.reduceBEq, isLd, e0, e4, hkk]
    refine gLoop_intro (fun m' T' G'' => ∃ j : Nat, T' 0 = .slice A ts.length c ∧ T' 4 = .int .i64 k ∧ T' 5 = .int .i64 j ∧ m' + j = ts.length ∧ k < j ∧ j ≤ ts.length ∧ G'' = G' ∧ ∀ j', k < j' → j' < j → AgreeP (ts.getD k t0) (ts.getD j' t0)) (ts.length - (k + 1))
      ⟨k + 1, by simp (maxSteps := 300000) (disch := omega) only [gs, gs2, gs3, gs4, ↓reduceIte, Nat.reduceEqDiff, Int.reduceToNat, Nat.reduceMul, Nat.reduceAdd, Nat.reduceBEq, isLd, e0], by simp (maxSteps := 300000) (disch := omega) only [gs, gs2, gs3, gs4, ↓reduceIte, Nat.reduceEqDiff, Int.reduceToNat, Nat.reduceMul, Nat.reduceAdd, Nat.reduceBEq, isLd, e4], by simp (maxSteps := 300000) (disch := omega) only [gs, gs2, gs3, gs4, ↓reduceIte, Nat.reduceEqDiff, Int.reduceToNat, Nat.reduceMul, Nat.reduceAdd, Nat.reduceBEq, isLd] <;> rfl, by omega, by omega, by omega, rfl, fun j' _ _ => by omega⟩ ?_
    clear e0 e4
    rintro m' T' G'' ⟨j, e0, e4, e5, hm', hkj, hjl, rfl, hin'⟩
    simp (maxSteps := 300000) (disch := omega) only [gs, gs2, gs3, gs4, ↓reduceIte, Nat.reduceEqDiff, Int.reduceToNat, Nat.reduceMul, Nat.reduceAdd, Nat.reduceBEq, isLd, e0, e4, e5]
    by_cases hjj : (j : Int) < ts.length
    · simp (maxSteps := 300000) (disch := omega) only [gs, gs2, gs3, gs4, ↓reduceIte, Nat.reduceEqDiff, Int.reduceToNat, Nat.reduceMul, Nat.reduceAdd, Nat.reduceBEq, isLd, e0, e4, e5, hjj, hkk]
      refine spec_l20Agree_ok (tp k (by omega)) (tp j (by omega)) (hv k (by omega)) (hv j (by omega)) fun z hz => ?_
      cases z
      · simp (maxSteps := 300000) (disch := omega) only [gs, gs2, gs3, gs4, ↓reduceIte, Nat.reduceEqDiff, Int.reduceToNat, Nat.reduceMul, Nat.reduceAdd, Nat.reduceBEq, isLd, e0, e4, e5, hjj, hkk]
        refine hk (some (k, j)) ⟨hkj, by omega, fun y => (by have := hz.2 y; cases this), fun i' j' y1 y2 y3 => ?_⟩
        rcases y3 with y3 | ⟨rfl, y3⟩
        · exact hin _ _ y1 y2 y3
        · exact hin' _ y1 y3
      · simp (maxSteps := 300000) (disch := omega) only [gs, gs2, gs3, gs4, ↓reduceIte, Nat.reduceEqDiff, Int.reduceToNat, Nat.reduceMul, Nat.reduceAdd, Nat.reduceBEq, isLd, e0, e4, e5, hjj, hkk]
        refine ⟨m' - 1, by omega, _, Sub.refl _, j + 1, rfl, by omega, by omega, by omega, rfl, fun j' y1 y2 => ?_⟩
        by_cases c : j' = j
        · subst c; exact hz.1 rfl
        · exact hin' j' y1 (by omega)
    · simp (maxSteps := 300000) (disch := omega) only [gs, gs2, gs3, gs4, ↓reduceIte, Nat.reduceEqDiff, Int.reduceToNat, Nat.reduceMul, Nat.reduceAdd, Nat.reduceBEq, isLd, e0, e4, e5, hjj]
      refine ⟨m - 1, by omega, _, Sub.refl _, k + 1, rfl, by omega, by omega, rfl, fun i j' y1 y2 y3 => ?_⟩
      by_cases c : i = k
      · subst c; exact hin' j' y1 (by omega)
      · exact hin i j' y1 y2 (by omega)
  · simp (maxSteps := 300000) (disch := omega) only [gs, gs2, gs3, gs4, ↓reduceIte, Nat.reduceEqDiff, Int.reduceToNat, Nat.reduceMul, Nat.reduceAdd, Nat.reduceBEq, isLd, e0, e4, hkk]
    exact hk none fun i j y1 y2 => hin i j y1 y2 (by omega)
theorem spec_FirstDisagreement_ok {G : GH} {A : Option Addr} {c : Nat} {H : Nat → TH} {ts : List Tab} (h : TabsS G A c H ts) (hl : TabsSm ts) {K : Value → GH → Prop}
    (hk : K (tri3V (fdV ts)) G) : GC Try.prog 27 [.slice A ts.length c] G K := by
  refine c_spec_FirstDisagreement_i (by simp) ?_
  simp (maxSteps := 300000) (disch := omega) only [gs, gs2, gs3, gs4, ↓reduceIte, Nat.reduceEqDiff, Int.reduceToNat, Nat.reduceMul, Nat.reduceAdd, Nat.reduceBEq, isLd]
  refine spec_l20List_ok h hl fun z hz => ?_
  cases z
  · simp (maxSteps := 300000) (disch := omega) only [gs, gs2, gs3, gs4, ↓reduceIte, Nat.reduceEqDiff, Int.reduceToNat, Nat.reduceMul, Nat.reduceAdd, Nat.reduceBEq, isLd]
    rw [fdV_no fun y => by have := hz.2 y; cases this] at hk
    exact hk
  · simp (maxSteps := 300000) (disch := omega) only [gs, gs2, gs3, gs4, ↓reduceIte, Nat.reduceEqDiff, Int.reduceToNat, Nat.reduceMul, Nat.reduceAdd, Nat.reduceBEq, isLd]
    refine spec_l20First_ok h (hz.1 rfl) fun r hr => ?_
    rw [fdV_yes (hz.1 rfl) hr] at hk
    cases r with
    | none => unfold disV' pairV; simp (maxSteps := 300000) (disch := omega) only [gs, gs2, gs3, gs4, ↓reduceIte, Nat.reduceEqDiff, Int.reduceToNat, Nat.reduceMul, Nat.reduceAdd, Nat.reduceBEq, isLd, show ((-1 : Int) < 0) = True from eq_true (by decide)]; exact hk
    | some p => obtain ⟨i, j⟩ := p; unfold disV' pairV; simp (maxSteps := 300000) (disch := omega) only [gs, gs2, gs3, gs4, ↓reduceIte, Nat.reduceEqDiff, Int.reduceToNat, Nat.reduceMul, Nat.reduceAdd, Nat.reduceBEq, isLd, show ((i : Int) < 0) = False from eq_false (by omega)]; exact hk
theorem law_FirstDisagreement {G : GH} {v0 : Value} {x0 : List Tab} (h0 : TablesV G v0 x0) : GC Try.prog 6 [v0] G fun v _ => v = .bool true := by
  obtain ⟨A0, c0, H0, rfl, h0, m0, n0⟩ := h0
  refine c_laws_FnExactFirstDisagreement_i (by simp) ?_
  simp (maxSteps := 300000) (disch := omega) only [gs, gs2, gs3, gs4, ↓reduceIte, Nat.reduceEqDiff, Int.reduceToNat, Nat.reduceMul, Nat.reduceAdd, Nat.reduceBEq, isLd]
  refine laws_szTableS_ok (ts := x0) h0 ⟨by omega, by omega⟩ m0 n0 fun q0 q0a q0b q0c => ?_
  simp (maxSteps := 300000) (disch := omega) only [gs, gs2, gs3, gs4, ↓reduceIte, Nat.reduceEqDiff, Int.reduceToNat, Nat.reduceMul, Nat.reduceAdd, Nat.reduceBEq, isLd]
  by_cases g0 : q0 < 0
  · simp (maxSteps := 300000) (disch := omega) only [gs, gs2, gs3, gs4, ↓reduceIte, Nat.reduceEqDiff, Int.reduceToNat, Nat.reduceMul, Nat.reduceAdd, Nat.reduceBEq, isLd, g0]
  simp (maxSteps := 300000) (disch := omega) only [gs, gs2, gs3, gs4, ↓reduceIte, Nat.reduceEqDiff, Int.reduceToNat, Nat.reduceMul, Nat.reduceAdd, Nat.reduceBEq, isLd, g0]
  obtain ⟨y0, z0⟩ := q0c (by omega)
  refine laws_toTableS_ok' (N := x0) h0 z0 fun As0 Hs0 G1 s1 hs0 => ?_
  have h0 := h0.sub s1
  simp (maxSteps := 300000) (disch := omega) only [gs, gs2, gs3, gs4, ↓reduceIte, Nat.reduceEqDiff, Int.reduceToNat, Nat.reduceMul, Nat.reduceAdd, Nat.reduceBEq, isLd]
  refine spec_FirstDisagreement_ok hs0 z0 ?_
  simp (maxSteps := 300000) (disch := omega) only [gs, gs2, gs3, gs4, ↓reduceIte, Nat.reduceEqDiff, Int.reduceToNat, Nat.reduceMul, Nat.reduceAdd, Nat.reduceBEq, isLd, tri3V]
  refine laws_toTableS_ok' (N := x0) h0 z0 fun Ai0 Hi0 G2 s2 hi0 => ?_
  have h0 := h0.sub s2
  have hs0 := hs0.sub s2
  simp (maxSteps := 300000) (disch := omega) only [gs, gs2, gs3, gs4, ↓reduceIte, Nat.reduceEqDiff, Int.reduceToNat, Nat.reduceMul, Nat.reduceAdd, Nat.reduceBEq, isLd]
  refine impl_FirstDisagreement_ok hi0 z0 ?_
  simp (maxSteps := 300000) (disch := omega) only [gs, gs2, gs3, gs4, ↓reduceIte, Nat.reduceEqDiff, Int.reduceToNat, Nat.reduceMul, Nat.reduceAdd, Nat.reduceBEq, isLd, tri3V, eq_self]
  refine laws_toTableS_ok' (N := x0) h0 z0 fun Ae0 He0 G3 s3 he0 => ?_
  have h0 := h0.sub s3
  have hs0 := hs0.sub s3
  have hi0 := hi0.sub s3
  simp (maxSteps := 300000) (disch := omega) only [gs, gs2, gs3, gs4, ↓reduceIte, Nat.reduceEqDiff, Int.reduceToNat, Nat.reduceMul, Nat.reduceAdd, Nat.reduceBEq, isLd]
  refine laws_eqTableS_ok hi0 he0 z0 fun b hb => ?_
  obtain rfl : b = true := hb.2 rfl
  simp (maxSteps := 300000) (disch := omega) only [gs, gs2, gs3, gs4, ↓reduceIte, Nat.reduceEqDiff, Int.reduceToNat, Nat.reduceMul, Nat.reduceAdd, Nat.reduceBEq, isLd]

end Go.Proofs.Ytanpmilodaejpaa.Gh
